import PyProof.Rows.All
import Wide.All
import OpenK.AllK
import Wide.FinOn
import HandS.ForMost
import HandS.Deep
import HandS.Defaults
import HandS.TupAny
import HandS.IsInst
import HandS.Head0
import HandS.Head1
import HandS.Head2
import HandS.HeadEnd
import HandS.HeadHook1
import HandS.HeadHook2
import HandS.HeadHook3
import HandS.HeadHook4
import HandS.HeadWalk
import HandS.Walk
import HandS.Rev
import HandS.Zip
import KE.KUnpackStar
import HandS.NoneIn
import KE.GoesEnum
import KE.GoesMore
import HandS.DictComp
import HandS.SetBool
import HandS.TupSets
import KE.KDictZip
import KE.KItemsList
import HandS.ListItems
import HandS.Small
import HandS.Steps
import HandS.SetKeys
import HandS.WordsDict
import HandS.Wide
import HandS.Text
import HandS.Codes
import PyProof.StrOps2
import HandS.Lambda
import HandS.Nested
import PySem.Challenge.RW_tierpile_k44_whole_places_of_a_clash
set_option Elab.async false
set_option linter.all false
set_option maxRecDepth 100000
set_option maxHeartbeats 4000000
namespace Tp
open PySem PySem.Spec PyProof.Rows L2

/-! ### data made of tuples, ints, texts -/
inductive TD (H : Hp) : V → PyData → Prop
  | int (i : Int) : TD H (.int i) (.int i)
  | str (x : Str) : TD H (.str x) (.str x)
  | tup {a : Addr} {xs : List V} {ds : List PyData} : H a = some (.tup xs) → xs.length = ds.length → (∀ (i : Nat) (x : V) (d : PyData), xs[i]? = some x → ds[i]? = some d → TD H x d) → TD H (.ref a) (.tuple ds)
def TDs (H : Hp) (xs : List V) (ds : List PyData) : Prop := xs.length = ds.length ∧ ∀ (i : Nat) (x : V) (d : PyData), xs[i]? = some x → ds[i]? = some d → TD H x d
section
variable {H H' : Hp} {x v : V} {xs ys : List V} {d : PyData} {ds es : List PyData} {a : Addr}
theorem TDs.nil : TDs H [] [] := ⟨rfl, fun i x d h => by simp at h⟩
theorem TDs.cons (h : TD H x d) (t : TDs H xs ds) : TDs H (x :: xs) (d :: ds) := by
  refine ⟨by simp [t.1], fun i y e h1 h2 => ?_⟩
  cases i with
  | zero =>
    simp at h1 h2
    subst h1 h2
    exact h
  | succ i =>
    simp at h1 h2
    exact t.2 i y e h1 h2
theorem TDs.head (t : TDs H (x :: xs) (d :: ds)) : TD H x d := t.2 0 x d (by simp) (by simp)
theorem TDs.tail (t : TDs H (x :: xs) (d :: ds)) : TDs H xs ds := ⟨by simpa using t.1, fun i y e h1 h2 => t.2 (i + 1) y e (by simpa using h1) (by simpa using h2)⟩
theorem TDs.cons_inv (t : TDs H xs (d :: ds)) : ∃ y ys, xs = y :: ys ∧ TD H y d ∧ TDs H ys ds := by
  cases xs with
  | nil => simp [TDs] at t
  | cons y ys => exact ⟨y, ys, rfl, t.head, t.tail⟩
theorem TDs.nil_inv (t : TDs H xs []) : xs = [] := by
  have := t.1
  simpa using this
theorem TDs.get (t : TDs H xs ds) {i : Nat} (h : ds[i]? = some d) : ∃ y, xs[i]? = some y ∧ TD H y d := by
  have hi : i < xs.length := by
    rw [t.1]
    exact (List.getElem?_eq_some_iff.mp h).1
  exact ⟨xs[i], List.getElem?_eq_getElem hi, t.2 i _ _ (List.getElem?_eq_getElem hi) h⟩
theorem TDs.get' (t : TDs H xs ds) {i : Nat} (h : xs[i]? = some x) : ∃ e, ds[i]? = some e ∧ TD H x e := by
  have hi : i < ds.length := by
    rw [← t.1]
    exact (List.getElem?_eq_some_iff.mp h).1
  exact ⟨ds[i], List.getElem?_eq_getElem hi, t.2 i _ _ h (List.getElem?_eq_getElem hi)⟩
theorem TDs.append (t : TDs H xs ds) (u : TDs H ys es) : TDs H (xs ++ ys) (ds ++ es) := by
  refine ⟨by simp [t.1, u.1], fun i y e h1 h2 => ?_⟩
  by_cases hi : i < xs.length
  · rw [List.getElem?_append_left hi] at h1
    rw [List.getElem?_append_left (by rw [← t.1]; exact hi)] at h2
    exact t.2 i y e h1 h2
  · rw [List.getElem?_append_right (by omega)] at h1
    rw [List.getElem?_append_right (by rw [← t.1]; omega), ← t.1] at h2
    exact u.2 _ y e h1 h2
theorem TDs.one (h : TD H x d) : TDs H [x] [d] := .cons h .nil
theorem TDs.snoc (t : TDs H xs ds) (h : TD H x d) : TDs H (xs ++ [x]) (ds ++ [d]) := t.append (.one h)
theorem TDs.drop (t : TDs H xs ds) (n : Nat) : TDs H (xs.drop n) (ds.drop n) :=
  ⟨by simp [t.1], fun i y e h1 h2 => t.2 (n + i) y e (by simpa using h1) (by simpa using h2)⟩
theorem TDs.take (t : TDs H xs ds) (n : Nat) : TDs H (xs.take n) (ds.take n) := by
  refine ⟨by simp [t.1], fun i y e h1 h2 => ?_⟩
  rw [List.getElem?_take] at h1 h2
  split at h1
  · rw [if_pos (by assumption)] at h2
    exact t.2 i y e h1 h2
  · cases h1
theorem TD.mk (h : H a = some (.tup xs)) (t : TDs H xs ds) : TD H (.ref a) (.tuple ds) := .tup h t.1 t.2
theorem TD.inv (h : TD H v (.tuple ds)) : ∃ a xs, v = .ref a ∧ H a = some (.tup xs) ∧ TDs H xs ds := by
  cases h with
  | tup h1 h2 h3 => exact ⟨_, _, rfl, h1, h2, h3⟩
theorem TD.inv_int {i : Int} (h : TD H v (.int i)) : v = .int i := by
  cases h
  rfl
theorem TD.inv_str {z : Str} (h : TD H v (.str z)) : v = .str z := by
  cases h
  rfl
/-- texts -/
theorem TDs.strs_inv : ∀ {ns : List Str} {xs : List V}, TDs H xs (ns.map PyData.str) → xs = ns.map V.str
  | [], xs, t => by
    have := t.nil_inv
    simpa using this
  | n :: ns, xs, t => by
    obtain ⟨y, ys, e, h1, h2⟩ := TDs.cons_inv (show TDs H xs (PyData.str n :: ns.map PyData.str) from t)
    rw [e, h1.inv_str, TDs.strs_inv h2]
    rfl
theorem TDs.strs : ∀ {ns : List Str}, TDs H (ns.map V.str) (ns.map PyData.str)
  | [] => .nil
  | n :: ns => .cons (.str n) TDs.strs
theorem TDs.ints_inv : ∀ {ns : List Int} {xs : List V}, TDs H xs (ns.map PyData.int) → xs = ns.map V.int
  | [], xs, t => by
    have := t.nil_inv
    simpa using this
  | n :: ns, xs, t => by
    obtain ⟨y, ys, e, h1, h2⟩ := TDs.cons_inv (show TDs H xs (PyData.int n :: ns.map PyData.int) from t)
    rw [e, h1.inv_int, TDs.ints_inv h2]
    rfl
end

/-! ### from one heap to a later one: all is kept but what stands at M; tuples are kept -/
structure Kp (M : List Addr) (H H' : Hp) : Prop where
  keep : ∀ b o, H b = some o → b ∉ M → H' b = some o
  tups : ∀ b xs, H b = some (.tup xs) → H' b = some (.tup xs)
  there : ∀ b o, H b = some o → ∃ o', H' b = some o'
section
variable {M M1 : List Addr} {H H1 H2 H' : Hp} {x v : V} {xs ys : List V} {d : PyData} {ds es : List PyData} {a p l : Addr} {o u : HO}
theorem Kp.refl (M : List Addr) (H : Hp) : Kp M H H := ⟨fun _ _ h _ => h, fun _ _ h => h, fun _ o h => ⟨o, h⟩⟩
theorem Kp.trans (k : Kp M H H1) (q : Kp M H1 H2) : Kp M H H2 :=
  ⟨fun b o h n => q.keep b o (k.keep b o h n) n, fun b xs h => q.tups b xs (k.tups b xs h), fun b o h => let ⟨o', h'⟩ := k.there b o h; q.there b o' h'⟩
theorem Kp.mono (k : Kp M H H') (h : ∀ b ∈ M, b ∈ M1) : Kp M1 H H' := ⟨fun b o e n => k.keep b o e fun z => n (h b z), k.tups, k.there⟩
theorem Kp.step (k : Kp M1 H1 H2) (h : ∀ b ∈ M1, b ∈ M) (q : Kp M H H1) : Kp M H H2 := q.trans (k.mono h)
theorem Kp.new (h : H p = none) : Kp M H (upd H p o) :=
  ⟨fun b u e _ => by rw [upd_ne (ne_of_none e h)]; exact e, fun b xs e => by rw [upd_ne (ne_of_none e h)]; exact e, fun b u e => ⟨u, by rw [upd_ne (ne_of_none e h)]; exact e⟩⟩
def isTupO : HO → Bool
  | .tup _ => true
  | _ => false
theorem Kp.wr (hl : l ∈ M) (h : H l = some u) (hu : isTupO u = false) : Kp M H (upd H l o) := by
  refine ⟨fun b v e n => ?_, fun b xs e => ?_, fun b v e => ?_⟩
  · rw [upd_ne (fun z => n (by rw [z]; exact hl))]
    exact e
  · rw [upd_ne (fun z => ?_)]
    · exact e
    · rw [z, h] at e
      cases e
      cases hu
  · by_cases hb : b = l
    · exact ⟨o, by rw [hb, upd_same]⟩
    · exact ⟨v, by rw [upd_ne hb]; exact e⟩
theorem Kp.at (k : Kp M H H') (h : H a = some o) (n : a ∉ M) : H' a = some o := k.keep a o h n
theorem Kp.atT (k : Kp M H H') (h : H a = some (.tup xs)) : H' a = some (.tup xs) := k.tups a xs h
theorem Kp.free (k : Kp M H H') (h : H' a = none) : H a = none := by
  cases e : H a with
  | none => rfl
  | some o =>
    obtain ⟨o', h'⟩ := k.there a o e
    rw [h] at h'
    cases h'
theorem TD.mono (k : Kp M H H') (h : TD H v d) : TD H' v d := by
  induction h with
  | int i => exact .int i
  | str x => exact .str x
  | tup h1 h2 _ ih => exact .tup (k.tups _ _ h1) h2 ih
theorem TDs.mono (k : Kp M H H') (h : TDs H xs ds) : TDs H' xs ds := ⟨h.1, fun i y e h1 h2 => (h.2 i y e h1 h2).mono k⟩
/-- not among so few -/
theorem ni0 : a ∉ ([] : List Addr) := by simp
theorem ni1 {m : Addr} (h : a ≠ m) : a ∉ [m] := by simp [h]
theorem ni2 {m n : Addr} (h : a ≠ m) (h2 : a ≠ n) : a ∉ [m, n] := by simp [h, h2]
theorem ni3 {m n q : Addr} (h : a ≠ m) (h2 : a ≠ n) (h3 : a ≠ q) : a ∉ [m, n, q] := by simp [h, h2, h3]
/-- what is there is not what is new -/
theorem ne_new (h : H a = some o) (n : H p = none) : a ≠ p := ne_of_none h n
theorem new_ne (h : H a = some o) (n : H p = none) : p ≠ a := (ne_of_none h n).symm
end

/-! ### data compared: the library's form -/
theorem TD.dpAll {K : PySem.W.Frag} {H : Hp} : ∀ {xs : List V} {ds : List PyData}, xs.length = ds.length → (∀ (i : Nat) (x : V) (d : PyData), xs[i]? = some x → ds[i]? = some d → Dp K H x d) → DpAll K H xs ds
  | [], [], _, _ => .nil
  | [], _ :: _, h, _ => by simp at h
  | _ :: _, [], h, _ => by simp at h
  | x :: xs, d :: ds, h, t => .cons (t 0 x d (by simp) (by simp)) (TD.dpAll (by simpa using h) fun i y e h1 h2 => t (i + 1) y e (by simpa using h1) (by simpa using h2))
theorem TD.dp {K : PySem.W.Frag} {H : Hp} {v : V} {d : PyData} (h : TD H v d) : Dp K H v d := by
  induction h with
  | int i => exact .int i
  | str x => exact .str x
  | tup h1 h2 _ ih => exact .tup (SqT.of h1) (TD.dpAll h2 ih)
theorem TDs.dpAll {K : PySem.W.Frag} {H : Hp} {xs : List V} {ds : List PyData} (t : TDs H xs ds) : DpAll K H xs ds := TD.dpAll t.1 fun i x d h1 h2 => (t.2 i x d h1 h2).dp
section
variable {X : Cx} {k : Nat}
/-- data equal, at any depth that there is room for -/
def rEqA (K : PySem.W.Frag) (neg : Bool) : R2 := fun x y H Q => ∃ d e, Dp K H x d ∧ Dp K H y e ∧ d.canLay0 = true ∧ e.canLay0 = true ∧ min d.depth e.depth ≤ 200 ∧ Q (.bl (if neg then !PyData.eqv d e else PyData.eqv d e)) H
theorem op_eqA (hr : Room k X.A) : OpR X (compareOp .Eq) (rEqA X.K false) := by
  intro pins s σ H x y v u Q I rx ry h
  obtain ⟨d, e, hd, he, ld, le, hm, q⟩ := h
  obtain ⟨as, r1⟩ := Dp.reads I d x v hd rx
  obtain ⟨bs, r2⟩ := Dp.reads I e y u he ry
  exact SeqAt.compareEq_reads r1 r2 ld le (by have := hr.un; omega) ⟨.bl _, H, I, rfl, q⟩
theorem op_neA (hr : Room k X.A) : OpR X (compareOp .NotEq) (rEqA X.K true) := by
  intro pins s σ H x y v u Q I rx ry h
  obtain ⟨d, e, hd, he, ld, le, hm, q⟩ := h
  obtain ⟨as, r1⟩ := Dp.reads I d x v hd rx
  obtain ⟨bs, r2⟩ := Dp.reads I e y u he ry
  exact SeqAt.compareNe_reads r1 r2 ld le (by have := hr.un; omega) ⟨.bl _, H, I, rfl, q⟩
/-- == and != of two of ints, texts, truths; of data -/
def rEqX (K : PySem.W.Frag) : R2 := fun x y H Q => rEq x y H Q ∨ rEqA K false x y H Q
def rNeX (K : PySem.W.Frag) : R2 := fun x y H Q => rNe x y H Q ∨ rEqA K true x y H Q
theorem op_eqX (hr : Room k X.A) : OpR X (compareOp .Eq) (rEqX X.K) := op_eq.or (op_eqA hr)
theorem op_neX (hr : Room k X.A) : OpR X (compareOp .NotEq) (rNeX X.K) := op_ne.or (op_neA hr)
end
end Tp
set_option Elab.async false
set_option linter.all false
set_option maxRecDepth 100000
set_option maxHeartbeats 4000000
namespace Tp
open PySem PySem.Spec PyProof.Rows L2

/-! ### readings, one construct a lemma; a heap is a letter -/
section
variable {K : PySem.W.Frag} {σ : L2.St} {H : Hp} {Q : VK} {D : Ends} {i : Nat} {v x y : V} {ta tb tc te : TE} {tt tu : TT} {t u : TS} {tA tr : TA} {ds es : List PyData} {d e : PyData} {r : R2}
theorem r_var (h : σ[i]? = some (some v)) (q : Q v H) : tVar i σ H Q := ⟨v, h, q⟩
theorem r_c (q : Q v H) : tC v σ H Q := q
theorem r_op (h : ta σ H fun x H1 => tb σ H1 fun y H2 => r x y H2 Q) : tOp r ta tb σ H Q := h
theorem r_test {Q : Bool → Hp → Prop} (h : te σ H fun x H' => ∃ k, x = .bl k ∧ Q k H') : tTest te σ H Q := h
theorem r_B {Q : Bool → Hp → Prop} (h : te σ H fun x H' => ∃ k, x = .bl k ∧ Q k H') : tB te σ H Q := h
theorem r_isbl {b : Bool} {Q : Bool → Hp → Prop} (h : Q b H) : ∃ k, V.bl b = .bl k ∧ Q k H := ⟨b, rfl, h⟩
theorem r_not {Q : Bool → Hp → Prop} (h : tt σ H fun c H1 => Q (!c) H1) : tNot tt σ H Q := h
theorem r_and {Q : Bool → Hp → Prop} (h : tt σ H fun c H1 => if c = true then tu σ H1 Q else Q false H1) : tAnd tt tu σ H Q := h
theorem r_or {Q : Bool → Hp → Prop} (h : tt σ H fun c H1 => if c = true then Q true H1 else tu σ H1 Q) : tOr tt tu σ H Q := h
theorem r_andV (h : ta σ H fun x H1 => ∃ c, x = .bl c ∧ if c = true then tb σ H1 Q else Q (.bl false) H1) : tAndV ta tb σ H Q := h
theorem r_orV (h : ta σ H fun x H1 => ∃ c, x = .bl c ∧ if c = true then Q (.bl true) H1 else tb σ H1 Q) : tOrV ta tb σ H Q := h
theorem r_notV (h : ta σ H fun x H1 => ∃ c, x = .bl c ∧ Q (.bl (!c)) H1) : tNotV ta σ H Q := h
theorem r_andV_bl {b : Bool} {A B : Prop} (h : if b = true then A else B) : ∃ c, V.bl b = .bl c ∧ if c = true then A else B := ⟨b, rfl, h⟩
theorem r_notV_bl {b : Bool} (h : Q (.bl (!b)) H) : ∃ c, V.bl b = .bl c ∧ Q (.bl (!c)) H := ⟨b, rfl, h⟩
theorem r_ifE (h : tt σ H fun c H1 => if c = true then ta σ H1 Q else tb σ H1 Q) : tIf tt ta tb σ H Q := h
theorem r_chain {r1 r2 : R2} (h : ta σ H fun x H1 => tb σ H1 fun y H2 => r1 x y H2 fun z H3 => ∃ k, z = .bl k ∧ (if k = true then tc σ H3 fun w' H4 => r2 y w' H4 Q else Q (.bl false) H3)) : tChain r1 r2 ta tb tc σ H Q := h
theorem r_seq (h : t ⟨fun σ H => u D σ H, D.rt, D.bk, D.ct⟩ σ H) : tSeq t u D σ H := h
theorem r_set (h : te σ H fun x H1 => D.nx (σ.set i (some x)) H1) : tAsg te (gName i) D σ H := h
theorem r_asg {g : TG} (h : te σ H fun x H1 => g x σ H1 D.nx) : tAsg te g D σ H := h
theorem r_ifS (h : tt σ H fun b H1 => if b = true then t D σ H1 else u D σ H1) : tIfS tt t u D σ H := h
theorem r_ret (h : te σ H D.rt) : tRet te D σ H := h
theorem r_drop (h : te σ H fun _ H1 => D.nx σ H1) : tDrop te D σ H := h
theorem r_next (h : D.nx σ H) : tNext D σ H := h
theorem r_nx {f b c : L2.St → Hp → Prop} {r : VK} (h : f σ H) : Ends.nx ⟨f, r, b, c⟩ σ H := h
theorem r_rt {f b c : L2.St → Hp → Prop} {r : VK} (h : r v H) : Ends.rt ⟨f, r, b, c⟩ v H := h
theorem r_cb {r : List V → Hp → VK → Prop} (h : tA σ H fun vs H1 => r vs H1 Q) : tCB r tA σ H Q := h
theorem r_cons {Q : List V → Hp → Prop} (h : te σ H fun x H1 => tA σ H1 fun xs H2 => Q (x :: xs) H2) : tCons te tA σ H Q := h
theorem r_nil {Q : List V → Hp → Prop} (h : Q [] H) : tNil σ H Q := h
theorem r_call {sp : Sp} (h : tA σ H fun vs H1 => sp vs H1 Q E0) : tCall sp [] E0 tA σ H Q := by
  show tA σ H fun vs H1 => sp (vs ++ []) H1 Q E0
  have e : (fun (vs : List V) (H1 : Hp) => sp (vs ++ []) H1 Q E0) = fun vs H1 => sp vs H1 Q E0 := by
    funext vs H1
    rw [List.append_nil]
  rw [e]
  exact h
theorem r_par {i j : Nat} (h : tA σ H fun vs H1 => ∃ v w, vs = [v, w] ∧ D.nx ((σ.set i (some v)).set j (some w)) H1) : tPar i j tA D σ H := h
theorem r_par2 {i j : Nat} {v w : V} {P : L2.St → Hp → Prop} (h : P ((σ.set i (some v)).set j (some w)) H) : ∃ v' w', [v, w] = [v', w'] ∧ P ((σ.set i (some v')).set j (some w')) H := ⟨v, w, rfl, h⟩

theorem r_exbl {b : Bool} {P : Bool → Prop} (h : P b) : ∃ c, V.bl b = .bl c ∧ P c := ⟨b, rfl, h⟩
theorem r_exstr {x : Str} {P : Str → Prop} (h : P x) : ∃ c, V.str x = .str c ∧ P c := ⟨x, rfl, h⟩
theorem r_exref {x : Addr} {P : Addr → Prop} (h : P x) : ∃ c, V.ref x = .ref c ∧ P c := ⟨x, rfl, h⟩
theorem r_exint {x : Int} {P : Int → Prop} (h : P x) : ∃ c, V.int x = .int c ∧ P c := ⟨x, rfl, h⟩
theorem r_ex2 {v w : V} {P : V → V → Prop} (h : P v w) : ∃ v' w', [v, w] = [v', w'] ∧ P v' w' := ⟨v, w, rfl, h⟩
/-! ### tests whose answer is known -/
theorem r_yes {b : Bool} {A B : Prop} (hb : b = true) (h : A) : if b = true then A else B := by rw [if_pos hb]; exact h
theorem r_no {b : Bool} {A B : Prop} (hb : b = false) (h : B) : if b = true then A else B := by rw [if_neg (by rw [hb]; exact Bool.false_ne_true)]; exact h
theorem r_two {b : Bool} {A B : Prop} (h1 : b = true → A) (h2 : b = false → B) : if b = true then A else B := by
  cases b with
  | true => exact r_yes rfl (h1 rfl)
  | false => exact r_no rfl (h2 rfl)

/-! ### operators -/
theorem r_I0 {g : Int → Int → V} {i j : Int} (q : Q (g i j) H) : rI0 g (.int i) (.int j) H Q := ⟨i, j, rfl, rfl, q⟩
theorem r_I {C : Int → Int → Prop} {g : Int → Int → V} {i j : Int} (c : C i j) (q : Q (g i j) H) : rI C g (.int i) (.int j) H Q := ⟨i, j, rfl, rfl, c, q⟩
theorem r_eq_int {i j : Int} (q : Q (.bl (decide (i = j))) H) : rEqX K (.int i) (.int j) H Q := .inl ⟨rfl, by
  have e : decide (V.int i = V.int j) = decide (i = j) := decide_eq_decide.mpr ⟨fun h => V.int.inj h, fun h => by rw [h]⟩
  rw [e]
  exact q⟩
theorem r_eq_str {i j : Str} (q : Q (.bl (decide (i = j))) H) : rEqX K (.str i) (.str j) H Q := .inl ⟨rfl, by
  have e : decide (V.str i = V.str j) = decide (i = j) := decide_eq_decide.mpr ⟨fun h => V.str.inj h, fun h => by rw [h]⟩
  rw [e]
  exact q⟩
theorem r_ne_int {i j : Int} (q : Q (.bl (!decide (i = j))) H) : rNeX K (.int i) (.int j) H Q := .inl ⟨rfl, by
  have e : decide (V.int i = V.int j) = decide (i = j) := decide_eq_decide.mpr ⟨fun h => V.int.inj h, fun h => by rw [h]⟩
  rw [e]
  exact q⟩
theorem r_ne_str {i j : Str} (q : Q (.bl (!decide (i = j))) H) : rNeX K (.str i) (.str j) H Q := .inl ⟨rfl, by
  have e : decide (V.str i = V.str j) = decide (i = j) := decide_eq_decide.mpr ⟨fun h => V.str.inj h, fun h => by rw [h]⟩
  rw [e]
  exact q⟩
theorem r_eq_td (h1 : TD H x d) (h2 : TD H y e) (l1 : d.canLay0 = true) (l2 : e.canLay0 = true) (m : min d.depth e.depth ≤ 200) (q : Q (.bl (PyData.eqv d e)) H) : rEqX K x y H Q := .inr ⟨d, e, h1.dp, h2.dp, l1, l2, m, q⟩
theorem r_ne_td (h1 : TD H x d) (h2 : TD H y e) (l1 : d.canLay0 = true) (l2 : e.canLay0 = true) (m : min d.depth e.depth ≤ 200) (q : Q (.bl (!PyData.eqv d e)) H) : rNeX K x y H Q := .inr ⟨d, e, h1.dp, h2.dp, l1, l2, m, q⟩

/-! ### subscripts of data -/
theorem atI_some {α : Type} {xs : List α} {n : Nat} {a : α} (h : xs[n]? = some a) : atI xs (n : Int) = some a := atI_nat h
/-- t[n]: the item, whichever it is -/
theorem r_ix (h : TD H x (.tuple ds)) (n : Nat) (hn : ds[n]? = some d) (q : ∀ y, TD H y d → Q y H) : rIx K x (.int (n : Int)) H Q := by
  obtain ⟨a, xs, rfl, ha, t⟩ := h.inv
  obtain ⟨y, hy, hd⟩ := t.get hn
  exact .inr (.inl ⟨a, xs, n, y, rfl, rfl, SqT.of ha, atI_nat hy, q y hd⟩)
theorem r_ix_str {z : Str} (h : TD H x (.tuple ds)) (n : Nat) (hn : ds[n]? = some (.str z)) (q : Q (.str z) H) : rIx K x (.int (n : Int)) H Q :=
  r_ix h n hn fun y hy => by rw [hy.inv_str]; exact q
theorem r_ix_int {z : Int} (h : TD H x (.tuple ds)) (n : Nat) (hn : ds[n]? = some (.int z)) (q : Q (.int z) H) : rIx K x (.int (n : Int)) H Q :=
  r_ix h n hn fun y hy => by rw [hy.inv_int]; exact q
/-- xs[n], a list that stands -/
theorem r_ixL {a : Addr} {xs : List V} (h : H a = some (.lst xs)) (n : Nat) (hn : xs[n]? = some y) (q : Q y H) : rIx K (.ref a) (.int (n : Int)) H Q :=
  .inl ⟨a, xs, n, y, rfl, rfl, SqL.of h, atI_nat hn, q⟩

end
/-! ### closures: readings that may be weakened -/
def cE (t : TE) : TE := fun σ H Q => ∃ Q0 : VK, t σ H Q0 ∧ ∀ v H', Q0 v H' → Q v H'
def cA (t : TA) : TA := fun σ H Q => ∃ Q0 : List V → Hp → Prop, t σ H Q0 ∧ ∀ v H', Q0 v H' → Q v H'
theorem cE_pe {X : Cx} {e : Expr} {t : TE} (h : PE X e t) : PE X e (cE t) :=
  ⟨fun pins s σ H Q I ⟨Q0, h1, h2⟩ => thn (h.run pins s σ H Q0 I h1) fun u s' ⟨v, H', I', r, q⟩ => ⟨v, H', I', r, h2 v H' q⟩⟩
theorem cA_pa {X : Cx} {es : List Expr} {t : TA} (h : PA X es t) : PA X es (cA t) :=
  ⟨fun pos pins s σ H Q I ⟨Q0, h1, h2⟩ => thn (h.run pos pins s σ H Q0 I h1) fun u s' ⟨v, H', I', r, q⟩ => ⟨v, H', I', r, h2 v H' q⟩⟩
/-- a new tuple, a new list: the heap behind it is a letter -/
def tTupK (t : TA) : TE := fun σ H Q => t σ H fun xs H1 => xs.length ≤ 1000 ∧ ∀ p H2, Kp [] H1 H2 → H1 p = none → H2 p = some (.tup xs) → Q (.ref p) H2
def tLstK (t : TA) : TE := fun σ H Q => t σ H fun xs H1 => xs.length ≤ 1000 ∧ ∀ p H2, Kp [] H1 H2 → H1 p = none → H2 p = some (.lst xs) → Q (.ref p) H2
section
variable {X : Cx} {es : List Expr} {t : TA} {pos : Pos}
theorem pe_tupK {x1} (h : PA X es t) : PE X (.Tuple es x1 pos) (tTupK t) :=
  ⟨fun pins s σ H Q I hq => (pe_tup (cA_pa h)).run pins s σ H Q I ⟨_, hq, fun xs H1 q => ⟨Nat.le_of_lt (small1000 q.1), fun p hp => q.2 p _ (Kp.new hp) hp upd_same⟩⟩⟩
theorem pe_lstK (h : PA X es t) : PE X (.List es pos) (tLstK t) :=
  ⟨fun pins s σ H Q I hq => (pe_lst (cA_pa h)).run pins s σ H Q I ⟨_, hq, fun xs H1 q => ⟨Nat.le_of_lt (small1000 q.1), fun p hp => q.2 p _ (Kp.new hp) hp upd_same⟩⟩⟩
end
section
variable {K : PySem.W.Frag} {σ : L2.St} {H : Hp} {Q : VK} {t : TA}
theorem r_tup (h : t σ H fun xs H1 => xs.length ≤ 1000 ∧ ∀ p H2, Kp [] H1 H2 → H1 p = none → H2 p = some (.tup xs) → Q (.ref p) H2) : tTupK t σ H Q := h
theorem r_lst (h : t σ H fun xs H1 => xs.length ≤ 1000 ∧ ∀ p H2, Kp [] H1 H2 → H1 p = none → H2 p = some (.lst xs) → Q (.ref p) H2) : tLstK t σ H Q := h
end

/-! ### calls of the program's defs -/
/-- the def called x is there and keeps its promise, at level k -/
def Cal (P : Program) (w : World) (K : PySem.W.Frag) (mg : Str → Option Value) (base : Heap) (k : Nat) (x : Str) (ps : List Str) (sp : Sp) : Prop :=
  ∃ (f : Addr) (fd : FuncData), mg x = some (.ref f) ∧ PySem.W.keepIn K (.ref f) = true ∧ Binds K fd ps [] ∧ FnOk P w K mg base CX0 k f fd ps sp
theorem Cal.up {P : Program} {w : World} {K : PySem.W.Frag} {mg : Str → Option Value} {base : Heap} {j k : Nat} {x : Str} {ps : List Str} {sp : Sp} (c : Cal P w K mg base j x ps sp) (h : j ≤ k) : Cal P w K mg base k x ps sp := by
  obtain ⟨f, fd, h1, h2, h3, h4⟩ := c
  exact ⟨f, fd, h1, h2, h3, h4.mono h⟩
theorem pe_cal {X : Cx} {j k : Nat} {x : Str} {ps : List Str} {sp : Sp} {e : Expr} {es : List Expr} {t : TA} {p pos : Pos} (c : Cal X.prog X.w X.K X.mg X.base j x ps sp) (hr : Room k X.A) (ha : PA X (e :: es) t) (hj : j ≤ k := by first | exact Nat.le_refl _ | decide | omega) (hg : Gl X x := by rfl)
    (hdb : (x == ("__debug__" : Str)) = false := by decide) (he : starEach (e :: es) X.env = (false, eval e X.env) :: starEach es X.env := by rfl) (hpl : (backTo pos (starEach es X.env)).any (·.1) = false := by rfl) :
    PE X (.Call (.Name x p) (e :: es) [] pos) (tCall sp [] E0 t) := by
  obtain ⟨f, fd, h1, h2, h3, h4⟩ := c
  exact pe_call h4 (hr.mono hj) hg h1 h2 h3 .nil pass0 ha hdb he hpl
theorem pe_cal0 {X : Cx} {j k : Nat} {x : Str} {ps : List Str} {sp : Sp} {p pos : Pos} (c : Cal X.prog X.w X.K X.mg X.base j x ps sp) (hr : Room k X.A) (hj : j ≤ k := by first | exact Nat.le_refl _ | decide | omega) (hg : Gl X x := by rfl)
    (hdb : (x == ("__debug__" : Str)) = false := by decide) :
    PE X (.Call (.Name x p) [] [] pos) (tCall sp [] E0 tNil) := by
  obtain ⟨f, fd, h1, h2, h3, h4⟩ := c
  exact pe_call0 h4 (hr.mono hj) hg h1 h2 h3 .nil pass0 hdb
/-- a def of the text, its body walked -/
theorem mk_ok {P : Program} {w : World} {K : PySem.W.Frag} {mg : Str → Option Value} {base : Heap} {x qual : Str} {st : Stmt} {f : Addr} {fd : FuncData} {N ps : List Str} {k : Nat} {sp : Sp}
    (F : FunD K x qual (defArgs st) (defBody st) (defScope st) [] [] f fd) (S : FnScope N ps (defScope st)) (len : ∀ vs H Q E, sp vs H Q E → vs.length = ps.length)
    (hbody : ∀ (cdv : Value) (A : Around) (outer : List Env) (s : Shared) (H : Hp) (vs : List V) (Q : VK) (E : XK), Room k (A.deeper (envOfC qual (defScope st) s.heap.objs.size f cdv)) → sp vs H Q E →
      ∃ t, PSs (cxOf CX0 P w K mg base N qual (defScope st) f cdv A outer s H E).nox (defBody st) t ∧ t ⟨fun _ H' => Q .non H', Q, fun _ _ => False, fun _ _ => False⟩ (start N vs) H) : FnOk P w K mg base CX0 (k + 1) f fd ps sp :=
  F.ok S len fun cdv A outer s H vs Q E hr h => by
    obtain ⟨t, h1, h2⟩ := hbody cdv A outer s H vs Q E hr h
    exact ⟨t, h1.nox, h2⟩
theorem mk_cal {P : Program} {w : World} {K : PySem.W.Frag} {mg : Str → Option Value} {base : Heap} {x qual : Str} {st : Stmt} {f : Addr} {fd : FuncData} {ps : List Str} {k : Nat} {sp : Sp}
    (F : FunD K x qual (defArgs st) (defBody st) (defScope st) [] [] f fd) (hg : mg x = some (.ref f))
    (hb : ∀ (kV doc pm : Value) (an : Option Addr) (cdv ct : Value) (us : List Value), us.length = ps.length → bindArgs (PySem.W.fnOf x qual (defArgs st) (defBody st) (defScope st) .none kV doc pm an cdv ct) ⟨us, []⟩ = pure (ps.zip us))
    (h : FnOk P w K mg base CX0 k f fd ps sp) : Cal P w K mg base k x ps sp := ⟨f, fd, hg, F.kp, F.bindsN hb, h⟩
end Tp
set_option Elab.async false
set_option linter.all false
set_option maxRecDepth 100000
set_option maxHeartbeats 0
namespace Tp
open PySem PySem.Spec PyProof.Rows L2
def top (i : Nat) : Stmt := PySem.Challenge.pw_tierpile_k44_whole_places_of_a_clash.main.body.getD i (.Pass ⟨0, 0, 0, 0⟩)
abbrev s_is_within : Stmt := top 14
abbrev s_is_name : Stmt := top 15
abbrev s_is_place : Stmt := top 16
abbrev s_is_node : Stmt := top 17
abbrev s_subtrees : Stmt := top 18
abbrev s_is_tree : Stmt := top 19
abbrev s_is_def : Stmt := top 20
abbrev s_is_program : Stmt := top 21
abbrev s_need_program : Stmt := top 22
abbrev s_scoped : Stmt := top 23
abbrev s_use_faults : Stmt := top 25
abbrev s_tree_faults : Stmt := top 26
abbrev s_faults : Stmt := top 27
abbrev s_need_sound : Stmt := top 28
abbrev s_Demands___init__ : Stmt := inClass (top 30) 0
abbrev s_Demands_new : Stmt := inClass (top 30) 1
abbrev s_Demands_demand : Stmt := inClass (top 30) 2
abbrev s_Demands_kind_of : Stmt := inClass (top 30) 3
abbrev s_Demands_of_use : Stmt := inClass (top 30) 4
abbrev s_Demands_of_op : Stmt := inClass (top 30) 5
abbrev s_Demands_of_case : Stmt := inClass (top 30) 6
abbrev s_seen : Stmt := top 31
abbrev s_is_within_it : Stmt := top 32
abbrev s_joined : Stmt := top 33
abbrev s_solved : Stmt := top 34
abbrev s_fewest : Stmt := top 35
abbrev s_told_kind : Stmt := top 36
abbrev s_kinds : Stmt := top 37
abbrev s__law_draws : Stmt := top 39
abbrev s__law_draw : Stmt := top 40
abbrev s__law_keys : Stmt := top 41
abbrev s__law_names : Stmt := top 42
abbrev s__law_place : Stmt := top 43
abbrev s__law_leaf : Stmt := top 44
abbrev s__law_loop : Stmt := top 45
abbrev s__law_op : Stmt := top 46
abbrev s__law_call : Stmt := top 47
abbrev s__law_tree : Stmt := top 48
abbrev s__law_program : Stmt := top 49
abbrev s__law_subs : Stmt := top 50
abbrev s__law_count : Stmt := top 51
abbrev s__law_with : Stmt := top 52
abbrev s__law_changed : Stmt := top 53
abbrev s__law_new : Stmt := top 54
abbrev s__law_pairs : Stmt := top 55
abbrev s__law_demand : Stmt := top 56
abbrev s__law_demands : Stmt := top 57
abbrev s__law_put : Stmt := top 58
abbrev s__law_solved : Stmt := top 59
abbrev s_law : Stmt := top 60
def d_is_within : He.DefD := ⟨("is_within", none), "is_within", "is_within", defArgs s_is_within, defBody s_is_within, defScope s_is_within, [], []⟩
def d_is_name : He.DefD := ⟨("is_name", none), "is_name", "is_name", defArgs s_is_name, defBody s_is_name, defScope s_is_name, [], []⟩
def d_is_place : He.DefD := ⟨("is_place", none), "is_place", "is_place", defArgs s_is_place, defBody s_is_place, defScope s_is_place, [], []⟩
def d_is_node : He.DefD := ⟨("is_node", none), "is_node", "is_node", defArgs s_is_node, defBody s_is_node, defScope s_is_node, [], []⟩
def d_subtrees : He.DefD := ⟨("subtrees", none), "subtrees", "subtrees", defArgs s_subtrees, defBody s_subtrees, defScope s_subtrees, [], []⟩
def d_is_tree : He.DefD := ⟨("is_tree", none), "is_tree", "is_tree", defArgs s_is_tree, defBody s_is_tree, defScope s_is_tree, [], []⟩
def d_is_def : He.DefD := ⟨("is_def", none), "is_def", "is_def", defArgs s_is_def, defBody s_is_def, defScope s_is_def, [], []⟩
def d_is_program : He.DefD := ⟨("is_program", none), "is_program", "is_program", defArgs s_is_program, defBody s_is_program, defScope s_is_program, [], []⟩
def d_need_program : He.DefD := ⟨("need_program", none), "need_program", "need_program", defArgs s_need_program, defBody s_need_program, defScope s_need_program, [], []⟩
def d_scoped : He.DefD := ⟨("scoped", none), "scoped", "scoped", defArgs s_scoped, defBody s_scoped, defScope s_scoped, [], []⟩
def d_use_faults : He.DefD := ⟨("use_faults", none), "use_faults", "use_faults", defArgs s_use_faults, defBody s_use_faults, defScope s_use_faults, [], []⟩
def d_tree_faults : He.DefD := ⟨("tree_faults", none), "tree_faults", "tree_faults", defArgs s_tree_faults, defBody s_tree_faults, defScope s_tree_faults, [], []⟩
def d_faults : He.DefD := ⟨("faults", none), "faults", "faults", defArgs s_faults, defBody s_faults, defScope s_faults, [], []⟩
def d_need_sound : He.DefD := ⟨("need_sound", none), "need_sound", "need_sound", defArgs s_need_sound, defBody s_need_sound, defScope s_need_sound, [], []⟩
def d_Demands___init__ : He.DefD := ⟨("Demands", some "__init__"), "__init__", "Demands.__init__", defArgs s_Demands___init__, defBody s_Demands___init__, defScope s_Demands___init__, [], []⟩
def d_Demands_new : He.DefD := ⟨("Demands", some "new"), "new", "Demands.new", defArgs s_Demands_new, defBody s_Demands_new, defScope s_Demands_new, [], []⟩
def d_Demands_demand : He.DefD := ⟨("Demands", some "demand"), "demand", "Demands.demand", defArgs s_Demands_demand, defBody s_Demands_demand, defScope s_Demands_demand, [], []⟩
def d_Demands_kind_of : He.DefD := ⟨("Demands", some "kind_of"), "kind_of", "Demands.kind_of", defArgs s_Demands_kind_of, defBody s_Demands_kind_of, defScope s_Demands_kind_of, [], []⟩
def d_Demands_of_use : He.DefD := ⟨("Demands", some "of_use"), "of_use", "Demands.of_use", defArgs s_Demands_of_use, defBody s_Demands_of_use, defScope s_Demands_of_use, [], []⟩
def d_Demands_of_op : He.DefD := ⟨("Demands", some "of_op"), "of_op", "Demands.of_op", defArgs s_Demands_of_op, defBody s_Demands_of_op, defScope s_Demands_of_op, [], []⟩
def d_Demands_of_case : He.DefD := ⟨("Demands", some "of_case"), "of_case", "Demands.of_case", defArgs s_Demands_of_case, defBody s_Demands_of_case, defScope s_Demands_of_case, [], []⟩
def d_seen : He.DefD := ⟨("seen", none), "seen", "seen", defArgs s_seen, defBody s_seen, defScope s_seen, [], []⟩
def d_is_within_it : He.DefD := ⟨("is_within_it", none), "is_within_it", "is_within_it", defArgs s_is_within_it, defBody s_is_within_it, defScope s_is_within_it, [], []⟩
def d_joined : He.DefD := ⟨("joined", none), "joined", "joined", defArgs s_joined, defBody s_joined, defScope s_joined, [], []⟩
def d_solved : He.DefD := ⟨("solved", none), "solved", "solved", defArgs s_solved, defBody s_solved, defScope s_solved, [], []⟩
def d_fewest : He.DefD := ⟨("fewest", none), "fewest", "fewest", defArgs s_fewest, defBody s_fewest, defScope s_fewest, [], []⟩
def d_told_kind : He.DefD := ⟨("told_kind", none), "told_kind", "told_kind", defArgs s_told_kind, defBody s_told_kind, defScope s_told_kind, [], []⟩
def d_kinds : He.DefD := ⟨("kinds", none), "kinds", "kinds", defArgs s_kinds, defBody s_kinds, defScope s_kinds, [], []⟩
def d__law_draws : He.DefD := ⟨("_law_draws", none), "_law_draws", "_law_draws", defArgs s__law_draws, defBody s__law_draws, defScope s__law_draws, [], []⟩
def d__law_draw : He.DefD := ⟨("_law_draw", none), "_law_draw", "_law_draw", defArgs s__law_draw, defBody s__law_draw, defScope s__law_draw, [], []⟩
def d__law_keys : He.DefD := ⟨("_law_keys", none), "_law_keys", "_law_keys", defArgs s__law_keys, defBody s__law_keys, defScope s__law_keys, [], []⟩
def d__law_names : He.DefD := ⟨("_law_names", none), "_law_names", "_law_names", defArgs s__law_names, defBody s__law_names, defScope s__law_names, [], []⟩
def d__law_place : He.DefD := ⟨("_law_place", none), "_law_place", "_law_place", defArgs s__law_place, defBody s__law_place, defScope s__law_place, [], []⟩
def d__law_leaf : He.DefD := ⟨("_law_leaf", none), "_law_leaf", "_law_leaf", defArgs s__law_leaf, defBody s__law_leaf, defScope s__law_leaf, [], []⟩
def d__law_loop : He.DefD := ⟨("_law_loop", none), "_law_loop", "_law_loop", defArgs s__law_loop, defBody s__law_loop, defScope s__law_loop, [], []⟩
def d__law_op : He.DefD := ⟨("_law_op", none), "_law_op", "_law_op", defArgs s__law_op, defBody s__law_op, defScope s__law_op, [], []⟩
def d__law_call : He.DefD := ⟨("_law_call", none), "_law_call", "_law_call", defArgs s__law_call, defBody s__law_call, defScope s__law_call, [], []⟩
def d__law_tree : He.DefD := ⟨("_law_tree", none), "_law_tree", "_law_tree", defArgs s__law_tree, defBody s__law_tree, defScope s__law_tree, [], []⟩
def d__law_program : He.DefD := ⟨("_law_program", none), "_law_program", "_law_program", defArgs s__law_program, defBody s__law_program, defScope s__law_program, [], []⟩
def d__law_subs : He.DefD := ⟨("_law_subs", none), "_law_subs", "_law_subs", defArgs s__law_subs, defBody s__law_subs, defScope s__law_subs, [], []⟩
def d__law_count : He.DefD := ⟨("_law_count", none), "_law_count", "_law_count", defArgs s__law_count, defBody s__law_count, defScope s__law_count, [], []⟩
def d__law_with : He.DefD := ⟨("_law_with", none), "_law_with", "_law_with", defArgs s__law_with, defBody s__law_with, defScope s__law_with, [], []⟩
def d__law_changed : He.DefD := ⟨("_law_changed", none), "_law_changed", "_law_changed", defArgs s__law_changed, defBody s__law_changed, defScope s__law_changed, [], []⟩
def d__law_new : He.DefD := ⟨("_law_new", none), "_law_new", "_law_new", defArgs s__law_new, defBody s__law_new, defScope s__law_new, [], []⟩
def d__law_pairs : He.DefD := ⟨("_law_pairs", none), "_law_pairs", "_law_pairs", defArgs s__law_pairs, defBody s__law_pairs, defScope s__law_pairs, [], []⟩
def d__law_demand : He.DefD := ⟨("_law_demand", none), "_law_demand", "_law_demand", defArgs s__law_demand, defBody s__law_demand, defScope s__law_demand, [], []⟩
def d__law_demands : He.DefD := ⟨("_law_demands", none), "_law_demands", "_law_demands", defArgs s__law_demands, defBody s__law_demands, defScope s__law_demands, [], []⟩
def d__law_put : He.DefD := ⟨("_law_put", none), "_law_put", "_law_put", defArgs s__law_put, defBody s__law_put, defScope s__law_put, [], []⟩
def d__law_solved : He.DefD := ⟨("_law_solved", none), "_law_solved", "_law_solved", defArgs s__law_solved, defBody s__law_solved, defScope s__law_solved, [], []⟩
def d_law : He.DefD := ⟨("law", none), "law", "law", defArgs s_law, defBody s_law, defScope s_law, [], []⟩
def fn : List He.DefD := [d_is_within, d_is_name, d_is_place, d_is_node, d_subtrees, d_is_tree, d_is_def, d_is_program, d_need_program, d_scoped, d_use_faults, d_tree_faults, d_faults, d_need_sound, d_Demands___init__, d_Demands_new, d_Demands_demand, d_Demands_kind_of, d_Demands_of_use, d_Demands_of_op, d_Demands_of_case, d_seen, d_is_within_it, d_joined, d_solved, d_fewest, d_told_kind, d_kinds, d__law_draws, d__law_draw, d__law_keys, d__law_names, d__law_place, d__law_leaf, d__law_loop, d__law_op, d__law_call, d__law_tree, d__law_program, d__law_subs, d__law_count, d__law_with, d__law_changed, d__law_new, d__law_pairs, d__law_demand, d__law_demands, d__law_put, d__law_solved, d_law]
def fa0 : List He.Fa := [.glo "is_within", .glo "is_name", .glo "is_place", .glo "is_node", .glo "subtrees", .glo "is_tree", .glo "is_def", .glo "is_program", .glo "need_program", .glo "scoped", .glo "use_faults", .glo "tree_faults", .glo "faults", .glo "need_sound", .glo "seen", .glo "is_within_it", .glo "joined", .glo "solved", .glo "fewest", .glo "told_kind"]
def fa1 : List He.Fa := [.glo "kinds", .glo "_law_draws", .glo "_law_draw", .glo "_law_keys", .glo "_law_names", .glo "_law_place", .glo "_law_leaf", .glo "_law_loop", .glo "_law_op", .glo "_law_call", .glo "_law_tree", .glo "_law_program", .glo "_law_subs", .glo "_law_count", .glo "_law_with", .glo "_law_changed", .glo "_law_new", .glo "_law_pairs", .glo "_law_demand", .glo "_law_demands"]
def fa2 : List He.Fa := [.glo "_law_put", .glo "_law_solved", .glo "law", .glo "Demands", .free "ValueError", .free "all", .free "bool", .free "dict", .free "enumerate", .free "int", .free "isinstance", .free "len", .free "list", .free "max", .free "min", .free "range", .free "reversed", .free "set", .free "sorted", .free "str"]
def fa3 : List He.Fa := [.free "sum", .free "tuple", .free "zip", .int "DEEP" 10, .int "MOST_DEFS" 8, .int "MOST_PARTS" 4, .int "MOST_NUMBER" 999999999, .str "LETTERS" "abcdefghijklmnopqrstuvwxyz", .glo "KEYS", .glo "OPS", .cls "Demands", .noat "Demands" "count", .noat "Demands" "rows", .noat "Demands" "table", .mkr "Demands", .meth "Demands" "new", .meth "Demands" "demand", .meth "Demands" "kind_of", .meth "Demands" "of_use", .meth "Demands" "of_op"]
def fa4 : List He.Fa := [.meth "Demands" "of_case"]
def fa : List He.Fa := fa0 ++ (fa1 ++ (fa2 ++ (fa3 ++ (fa4))))
def keysD : List He.Dv := [.str "let", .str "if", .str "then", .str "else", .str "case", .str "of", .str "div", .str "mod", .str "and", .str "or"]
def opsD : List He.Dv := [.str "+", .str "-", .str "*", .str "div", .str "mod", .str "==", .str "<", .str ":"]
def keysL : List Str := [("let" : Str), ("if" : Str), ("then" : Str), ("else" : Str), ("case" : Str), ("of" : Str), ("div" : Str), ("mod" : Str), ("and" : Str), ("or" : Str)]
def opsL : List Str := [("+" : Str), ("-" : Str), ("*" : Str), ("div" : Str), ("mod" : Str), ("==" : Str), ("<" : Str), (":" : Str)]
def exB (K : PySem.W.Frag) : Bool := He.tupB K "KEYS" keysD && He.tupB K "OPS" opsD
/-- what the program's top has left -/
structure Txt (K : PySem.W.Frag) (mg : Str → Option Value) : Prop where
  says : He.SaysD fa fn K
  ex : exB K = true
  glo : ∀ x, (He.Fa.glo x).ok K = true → mg x = some (.ref (He.ga K x))
  free : ∀ x, (He.Fa.free x).ok K = true → mg x = none
  int : ∀ x i, (He.Fa.int x i).ok K = true → ∃ t, mg x = some (.int i t)
  str : ∀ x z, (He.Fa.str x z).ok K = true → ∃ t, mg x = some (.str z t)
section
variable {K : PySem.W.Frag} {mg : Str → Option Value}
theorem Txt.g_is_within (T : Txt K mg) : mg "is_within" = some (.ref (He.ga K "is_within")) := T.glo _ (T.says.fact 0 (f := .glo "is_within") rfl)
theorem Txt.g_is_name (T : Txt K mg) : mg "is_name" = some (.ref (He.ga K "is_name")) := T.glo _ (T.says.fact 1 (f := .glo "is_name") rfl)
theorem Txt.g_is_place (T : Txt K mg) : mg "is_place" = some (.ref (He.ga K "is_place")) := T.glo _ (T.says.fact 2 (f := .glo "is_place") rfl)
theorem Txt.g_is_node (T : Txt K mg) : mg "is_node" = some (.ref (He.ga K "is_node")) := T.glo _ (T.says.fact 3 (f := .glo "is_node") rfl)
theorem Txt.g_subtrees (T : Txt K mg) : mg "subtrees" = some (.ref (He.ga K "subtrees")) := T.glo _ (T.says.fact 4 (f := .glo "subtrees") rfl)
theorem Txt.g_is_tree (T : Txt K mg) : mg "is_tree" = some (.ref (He.ga K "is_tree")) := T.glo _ (T.says.fact 5 (f := .glo "is_tree") rfl)
theorem Txt.g_is_def (T : Txt K mg) : mg "is_def" = some (.ref (He.ga K "is_def")) := T.glo _ (T.says.fact 6 (f := .glo "is_def") rfl)
theorem Txt.g_is_program (T : Txt K mg) : mg "is_program" = some (.ref (He.ga K "is_program")) := T.glo _ (T.says.fact 7 (f := .glo "is_program") rfl)
theorem Txt.g_need_program (T : Txt K mg) : mg "need_program" = some (.ref (He.ga K "need_program")) := T.glo _ (T.says.fact 8 (f := .glo "need_program") rfl)
theorem Txt.g_scoped (T : Txt K mg) : mg "scoped" = some (.ref (He.ga K "scoped")) := T.glo _ (T.says.fact 9 (f := .glo "scoped") rfl)
theorem Txt.g_use_faults (T : Txt K mg) : mg "use_faults" = some (.ref (He.ga K "use_faults")) := T.glo _ (T.says.fact 10 (f := .glo "use_faults") rfl)
theorem Txt.g_tree_faults (T : Txt K mg) : mg "tree_faults" = some (.ref (He.ga K "tree_faults")) := T.glo _ (T.says.fact 11 (f := .glo "tree_faults") rfl)
theorem Txt.g_faults (T : Txt K mg) : mg "faults" = some (.ref (He.ga K "faults")) := T.glo _ (T.says.fact 12 (f := .glo "faults") rfl)
theorem Txt.g_need_sound (T : Txt K mg) : mg "need_sound" = some (.ref (He.ga K "need_sound")) := T.glo _ (T.says.fact 13 (f := .glo "need_sound") rfl)
theorem Txt.g_seen (T : Txt K mg) : mg "seen" = some (.ref (He.ga K "seen")) := T.glo _ (T.says.fact 14 (f := .glo "seen") rfl)
theorem Txt.g_is_within_it (T : Txt K mg) : mg "is_within_it" = some (.ref (He.ga K "is_within_it")) := T.glo _ (T.says.fact 15 (f := .glo "is_within_it") rfl)
theorem Txt.g_joined (T : Txt K mg) : mg "joined" = some (.ref (He.ga K "joined")) := T.glo _ (T.says.fact 16 (f := .glo "joined") rfl)
theorem Txt.g_solved (T : Txt K mg) : mg "solved" = some (.ref (He.ga K "solved")) := T.glo _ (T.says.fact 17 (f := .glo "solved") rfl)
theorem Txt.g_fewest (T : Txt K mg) : mg "fewest" = some (.ref (He.ga K "fewest")) := T.glo _ (T.says.fact 18 (f := .glo "fewest") rfl)
theorem Txt.g_told_kind (T : Txt K mg) : mg "told_kind" = some (.ref (He.ga K "told_kind")) := T.glo _ (T.says.fact 19 (f := .glo "told_kind") rfl)
theorem Txt.g_kinds (T : Txt K mg) : mg "kinds" = some (.ref (He.ga K "kinds")) := T.glo _ (T.says.fact 20 (f := .glo "kinds") rfl)
theorem Txt.g__law_draws (T : Txt K mg) : mg "_law_draws" = some (.ref (He.ga K "_law_draws")) := T.glo _ (T.says.fact 21 (f := .glo "_law_draws") rfl)
theorem Txt.g__law_draw (T : Txt K mg) : mg "_law_draw" = some (.ref (He.ga K "_law_draw")) := T.glo _ (T.says.fact 22 (f := .glo "_law_draw") rfl)
theorem Txt.g__law_keys (T : Txt K mg) : mg "_law_keys" = some (.ref (He.ga K "_law_keys")) := T.glo _ (T.says.fact 23 (f := .glo "_law_keys") rfl)
theorem Txt.g__law_names (T : Txt K mg) : mg "_law_names" = some (.ref (He.ga K "_law_names")) := T.glo _ (T.says.fact 24 (f := .glo "_law_names") rfl)
theorem Txt.g__law_place (T : Txt K mg) : mg "_law_place" = some (.ref (He.ga K "_law_place")) := T.glo _ (T.says.fact 25 (f := .glo "_law_place") rfl)
theorem Txt.g__law_leaf (T : Txt K mg) : mg "_law_leaf" = some (.ref (He.ga K "_law_leaf")) := T.glo _ (T.says.fact 26 (f := .glo "_law_leaf") rfl)
theorem Txt.g__law_loop (T : Txt K mg) : mg "_law_loop" = some (.ref (He.ga K "_law_loop")) := T.glo _ (T.says.fact 27 (f := .glo "_law_loop") rfl)
theorem Txt.g__law_op (T : Txt K mg) : mg "_law_op" = some (.ref (He.ga K "_law_op")) := T.glo _ (T.says.fact 28 (f := .glo "_law_op") rfl)
theorem Txt.g__law_call (T : Txt K mg) : mg "_law_call" = some (.ref (He.ga K "_law_call")) := T.glo _ (T.says.fact 29 (f := .glo "_law_call") rfl)
theorem Txt.g__law_tree (T : Txt K mg) : mg "_law_tree" = some (.ref (He.ga K "_law_tree")) := T.glo _ (T.says.fact 30 (f := .glo "_law_tree") rfl)
theorem Txt.g__law_program (T : Txt K mg) : mg "_law_program" = some (.ref (He.ga K "_law_program")) := T.glo _ (T.says.fact 31 (f := .glo "_law_program") rfl)
theorem Txt.g__law_subs (T : Txt K mg) : mg "_law_subs" = some (.ref (He.ga K "_law_subs")) := T.glo _ (T.says.fact 32 (f := .glo "_law_subs") rfl)
theorem Txt.g__law_count (T : Txt K mg) : mg "_law_count" = some (.ref (He.ga K "_law_count")) := T.glo _ (T.says.fact 33 (f := .glo "_law_count") rfl)
theorem Txt.g__law_with (T : Txt K mg) : mg "_law_with" = some (.ref (He.ga K "_law_with")) := T.glo _ (T.says.fact 34 (f := .glo "_law_with") rfl)
theorem Txt.g__law_changed (T : Txt K mg) : mg "_law_changed" = some (.ref (He.ga K "_law_changed")) := T.glo _ (T.says.fact 35 (f := .glo "_law_changed") rfl)
theorem Txt.g__law_new (T : Txt K mg) : mg "_law_new" = some (.ref (He.ga K "_law_new")) := T.glo _ (T.says.fact 36 (f := .glo "_law_new") rfl)
theorem Txt.g__law_pairs (T : Txt K mg) : mg "_law_pairs" = some (.ref (He.ga K "_law_pairs")) := T.glo _ (T.says.fact 37 (f := .glo "_law_pairs") rfl)
theorem Txt.g__law_demand (T : Txt K mg) : mg "_law_demand" = some (.ref (He.ga K "_law_demand")) := T.glo _ (T.says.fact 38 (f := .glo "_law_demand") rfl)
theorem Txt.g__law_demands (T : Txt K mg) : mg "_law_demands" = some (.ref (He.ga K "_law_demands")) := T.glo _ (T.says.fact 39 (f := .glo "_law_demands") rfl)
theorem Txt.g__law_put (T : Txt K mg) : mg "_law_put" = some (.ref (He.ga K "_law_put")) := T.glo _ (T.says.fact 40 (f := .glo "_law_put") rfl)
theorem Txt.g__law_solved (T : Txt K mg) : mg "_law_solved" = some (.ref (He.ga K "_law_solved")) := T.glo _ (T.says.fact 41 (f := .glo "_law_solved") rfl)
theorem Txt.g_law (T : Txt K mg) : mg "law" = some (.ref (He.ga K "law")) := T.glo _ (T.says.fact 42 (f := .glo "law") rfl)
theorem Txt.g_Demands (T : Txt K mg) : mg "Demands" = some (.ref (He.ga K "Demands")) := T.glo _ (T.says.fact 43 (f := .glo "Demands") rfl)
theorem Txt.b_ValueError (T : Txt K mg) : mg "ValueError" = none := T.free _ (T.says.fact 44 (f := .free "ValueError") rfl)
theorem Txt.b_all (T : Txt K mg) : mg "all" = none := T.free _ (T.says.fact 45 (f := .free "all") rfl)
theorem Txt.b_bool (T : Txt K mg) : mg "bool" = none := T.free _ (T.says.fact 46 (f := .free "bool") rfl)
theorem Txt.b_dict (T : Txt K mg) : mg "dict" = none := T.free _ (T.says.fact 47 (f := .free "dict") rfl)
theorem Txt.b_enumerate (T : Txt K mg) : mg "enumerate" = none := T.free _ (T.says.fact 48 (f := .free "enumerate") rfl)
theorem Txt.b_int (T : Txt K mg) : mg "int" = none := T.free _ (T.says.fact 49 (f := .free "int") rfl)
theorem Txt.b_isinstance (T : Txt K mg) : mg "isinstance" = none := T.free _ (T.says.fact 50 (f := .free "isinstance") rfl)
theorem Txt.b_len (T : Txt K mg) : mg "len" = none := T.free _ (T.says.fact 51 (f := .free "len") rfl)
theorem Txt.b_list (T : Txt K mg) : mg "list" = none := T.free _ (T.says.fact 52 (f := .free "list") rfl)
theorem Txt.b_max (T : Txt K mg) : mg "max" = none := T.free _ (T.says.fact 53 (f := .free "max") rfl)
theorem Txt.b_min (T : Txt K mg) : mg "min" = none := T.free _ (T.says.fact 54 (f := .free "min") rfl)
theorem Txt.b_range (T : Txt K mg) : mg "range" = none := T.free _ (T.says.fact 55 (f := .free "range") rfl)
theorem Txt.b_reversed (T : Txt K mg) : mg "reversed" = none := T.free _ (T.says.fact 56 (f := .free "reversed") rfl)
theorem Txt.b_set (T : Txt K mg) : mg "set" = none := T.free _ (T.says.fact 57 (f := .free "set") rfl)
theorem Txt.b_sorted (T : Txt K mg) : mg "sorted" = none := T.free _ (T.says.fact 58 (f := .free "sorted") rfl)
theorem Txt.b_str (T : Txt K mg) : mg "str" = none := T.free _ (T.says.fact 59 (f := .free "str") rfl)
theorem Txt.b_sum (T : Txt K mg) : mg "sum" = none := T.free _ (T.says.fact 60 (f := .free "sum") rfl)
theorem Txt.b_tuple (T : Txt K mg) : mg "tuple" = none := T.free _ (T.says.fact 61 (f := .free "tuple") rfl)
theorem Txt.b_zip (T : Txt K mg) : mg "zip" = none := T.free _ (T.says.fact 62 (f := .free "zip") rfl)
theorem Txt.i_DEEP (T : Txt K mg) : ∃ t, mg "DEEP" = some (.int 10 t) := T.int _ _ (T.says.fact 63 (f := .int "DEEP" 10) rfl)
theorem Txt.i_MOST_DEFS (T : Txt K mg) : ∃ t, mg "MOST_DEFS" = some (.int 8 t) := T.int _ _ (T.says.fact 64 (f := .int "MOST_DEFS" 8) rfl)
theorem Txt.i_MOST_PARTS (T : Txt K mg) : ∃ t, mg "MOST_PARTS" = some (.int 4 t) := T.int _ _ (T.says.fact 65 (f := .int "MOST_PARTS" 4) rfl)
theorem Txt.i_MOST_NUMBER (T : Txt K mg) : ∃ t, mg "MOST_NUMBER" = some (.int 999999999 t) := T.int _ _ (T.says.fact 66 (f := .int "MOST_NUMBER" 999999999) rfl)
theorem Txt.i_LETTERS (T : Txt K mg) : ∃ t, mg "LETTERS" = some (.str "abcdefghijklmnopqrstuvwxyz" t) := T.str _ _ (T.says.fact 67 (f := .str "LETTERS" "abcdefghijklmnopqrstuvwxyz") rfl)
theorem Txt.g_KEYS (T : Txt K mg) : mg "KEYS" = some (.ref (He.ga K "KEYS")) := T.glo _ (T.says.fact 68 (f := .glo "KEYS") rfl)
theorem Txt.g_OPS (T : Txt K mg) : mg "OPS" = some (.ref (He.ga K "OPS")) := T.glo _ (T.says.fact 69 (f := .glo "OPS") rfl)
theorem Txt.cls (T : Txt K mg) : Cls K (He.ga K "Demands") := He.cls_ok (T.says.fact 70 (f := .cls "Demands") rfl)
theorem Txt.no_count (T : Txt K mg) : NoAttr K (He.ga K "Demands") "count" := He.noat_ok (T.says.fact 71 (f := .noat "Demands" "count") rfl)
theorem Txt.no_rows (T : Txt K mg) : NoAttr K (He.ga K "Demands") "rows" := He.noat_ok (T.says.fact 72 (f := .noat "Demands" "rows") rfl)
theorem Txt.no_table (T : Txt K mg) : NoAttr K (He.ga K "Demands") "table" := He.noat_ok (T.says.fact 73 (f := .noat "Demands" "table") rfl)
theorem Txt.mkr (T : Txt K mg) : Mk K (He.ga K "Demands") (He.ma K (He.ga K "Demands") "__init__") := He.mkr_ok (T.says.fact 74 (f := .mkr "Demands") rfl)
theorem Txt.m_new (T : Txt K mg) : Meth K (He.ga K "Demands") "new" (He.ma K (He.ga K "Demands") "new") := He.meth_ok (T.says.fact 75 (f := .meth "Demands" "new") rfl)
theorem Txt.m_demand (T : Txt K mg) : Meth K (He.ga K "Demands") "demand" (He.ma K (He.ga K "Demands") "demand") := He.meth_ok (T.says.fact 76 (f := .meth "Demands" "demand") rfl)
theorem Txt.m_kind_of (T : Txt K mg) : Meth K (He.ga K "Demands") "kind_of" (He.ma K (He.ga K "Demands") "kind_of") := He.meth_ok (T.says.fact 77 (f := .meth "Demands" "kind_of") rfl)
theorem Txt.m_of_use (T : Txt K mg) : Meth K (He.ga K "Demands") "of_use" (He.ma K (He.ga K "Demands") "of_use") := He.meth_ok (T.says.fact 78 (f := .meth "Demands" "of_use") rfl)
theorem Txt.m_of_op (T : Txt K mg) : Meth K (He.ga K "Demands") "of_op" (He.ma K (He.ga K "Demands") "of_op") := He.meth_ok (T.says.fact 79 (f := .meth "Demands" "of_op") rfl)
theorem Txt.m_of_case (T : Txt K mg) : Meth K (He.ga K "Demands") "of_case" (He.ma K (He.ga K "Demands") "of_case") := He.meth_ok (T.says.fact 80 (f := .meth "Demands" "of_case") rfl)
theorem Txt.F_is_within (T : Txt K mg) : ∃ fd, FunD K "is_within" "is_within" (defArgs s_is_within) (defBody s_is_within) (defScope s_is_within) [] [] (He.ga K "is_within") fd := T.says.def_ 0 (d := d_is_within) rfl
theorem Txt.F_is_name (T : Txt K mg) : ∃ fd, FunD K "is_name" "is_name" (defArgs s_is_name) (defBody s_is_name) (defScope s_is_name) [] [] (He.ga K "is_name") fd := T.says.def_ 1 (d := d_is_name) rfl
theorem Txt.F_is_place (T : Txt K mg) : ∃ fd, FunD K "is_place" "is_place" (defArgs s_is_place) (defBody s_is_place) (defScope s_is_place) [] [] (He.ga K "is_place") fd := T.says.def_ 2 (d := d_is_place) rfl
theorem Txt.F_is_node (T : Txt K mg) : ∃ fd, FunD K "is_node" "is_node" (defArgs s_is_node) (defBody s_is_node) (defScope s_is_node) [] [] (He.ga K "is_node") fd := T.says.def_ 3 (d := d_is_node) rfl
theorem Txt.F_subtrees (T : Txt K mg) : ∃ fd, FunD K "subtrees" "subtrees" (defArgs s_subtrees) (defBody s_subtrees) (defScope s_subtrees) [] [] (He.ga K "subtrees") fd := T.says.def_ 4 (d := d_subtrees) rfl
theorem Txt.F_is_tree (T : Txt K mg) : ∃ fd, FunD K "is_tree" "is_tree" (defArgs s_is_tree) (defBody s_is_tree) (defScope s_is_tree) [] [] (He.ga K "is_tree") fd := T.says.def_ 5 (d := d_is_tree) rfl
theorem Txt.F_is_def (T : Txt K mg) : ∃ fd, FunD K "is_def" "is_def" (defArgs s_is_def) (defBody s_is_def) (defScope s_is_def) [] [] (He.ga K "is_def") fd := T.says.def_ 6 (d := d_is_def) rfl
theorem Txt.F_is_program (T : Txt K mg) : ∃ fd, FunD K "is_program" "is_program" (defArgs s_is_program) (defBody s_is_program) (defScope s_is_program) [] [] (He.ga K "is_program") fd := T.says.def_ 7 (d := d_is_program) rfl
theorem Txt.F_need_program (T : Txt K mg) : ∃ fd, FunD K "need_program" "need_program" (defArgs s_need_program) (defBody s_need_program) (defScope s_need_program) [] [] (He.ga K "need_program") fd := T.says.def_ 8 (d := d_need_program) rfl
theorem Txt.F_scoped (T : Txt K mg) : ∃ fd, FunD K "scoped" "scoped" (defArgs s_scoped) (defBody s_scoped) (defScope s_scoped) [] [] (He.ga K "scoped") fd := T.says.def_ 9 (d := d_scoped) rfl
theorem Txt.F_use_faults (T : Txt K mg) : ∃ fd, FunD K "use_faults" "use_faults" (defArgs s_use_faults) (defBody s_use_faults) (defScope s_use_faults) [] [] (He.ga K "use_faults") fd := T.says.def_ 10 (d := d_use_faults) rfl
theorem Txt.F_tree_faults (T : Txt K mg) : ∃ fd, FunD K "tree_faults" "tree_faults" (defArgs s_tree_faults) (defBody s_tree_faults) (defScope s_tree_faults) [] [] (He.ga K "tree_faults") fd := T.says.def_ 11 (d := d_tree_faults) rfl
theorem Txt.F_faults (T : Txt K mg) : ∃ fd, FunD K "faults" "faults" (defArgs s_faults) (defBody s_faults) (defScope s_faults) [] [] (He.ga K "faults") fd := T.says.def_ 12 (d := d_faults) rfl
theorem Txt.F_need_sound (T : Txt K mg) : ∃ fd, FunD K "need_sound" "need_sound" (defArgs s_need_sound) (defBody s_need_sound) (defScope s_need_sound) [] [] (He.ga K "need_sound") fd := T.says.def_ 13 (d := d_need_sound) rfl
theorem Txt.F_Demands___init__ (T : Txt K mg) : ∃ fd, FunD K "__init__" "Demands.__init__" (defArgs s_Demands___init__) (defBody s_Demands___init__) (defScope s_Demands___init__) [] [] (He.ma K (He.ga K "Demands") "__init__") fd := T.says.def_ 14 (d := d_Demands___init__) rfl
theorem Txt.F_Demands_new (T : Txt K mg) : ∃ fd, FunD K "new" "Demands.new" (defArgs s_Demands_new) (defBody s_Demands_new) (defScope s_Demands_new) [] [] (He.ma K (He.ga K "Demands") "new") fd := T.says.def_ 15 (d := d_Demands_new) rfl
theorem Txt.F_Demands_demand (T : Txt K mg) : ∃ fd, FunD K "demand" "Demands.demand" (defArgs s_Demands_demand) (defBody s_Demands_demand) (defScope s_Demands_demand) [] [] (He.ma K (He.ga K "Demands") "demand") fd := T.says.def_ 16 (d := d_Demands_demand) rfl
theorem Txt.F_Demands_kind_of (T : Txt K mg) : ∃ fd, FunD K "kind_of" "Demands.kind_of" (defArgs s_Demands_kind_of) (defBody s_Demands_kind_of) (defScope s_Demands_kind_of) [] [] (He.ma K (He.ga K "Demands") "kind_of") fd := T.says.def_ 17 (d := d_Demands_kind_of) rfl
theorem Txt.F_Demands_of_use (T : Txt K mg) : ∃ fd, FunD K "of_use" "Demands.of_use" (defArgs s_Demands_of_use) (defBody s_Demands_of_use) (defScope s_Demands_of_use) [] [] (He.ma K (He.ga K "Demands") "of_use") fd := T.says.def_ 18 (d := d_Demands_of_use) rfl
theorem Txt.F_Demands_of_op (T : Txt K mg) : ∃ fd, FunD K "of_op" "Demands.of_op" (defArgs s_Demands_of_op) (defBody s_Demands_of_op) (defScope s_Demands_of_op) [] [] (He.ma K (He.ga K "Demands") "of_op") fd := T.says.def_ 19 (d := d_Demands_of_op) rfl
theorem Txt.F_Demands_of_case (T : Txt K mg) : ∃ fd, FunD K "of_case" "Demands.of_case" (defArgs s_Demands_of_case) (defBody s_Demands_of_case) (defScope s_Demands_of_case) [] [] (He.ma K (He.ga K "Demands") "of_case") fd := T.says.def_ 20 (d := d_Demands_of_case) rfl
theorem Txt.F_seen (T : Txt K mg) : ∃ fd, FunD K "seen" "seen" (defArgs s_seen) (defBody s_seen) (defScope s_seen) [] [] (He.ga K "seen") fd := T.says.def_ 21 (d := d_seen) rfl
theorem Txt.F_is_within_it (T : Txt K mg) : ∃ fd, FunD K "is_within_it" "is_within_it" (defArgs s_is_within_it) (defBody s_is_within_it) (defScope s_is_within_it) [] [] (He.ga K "is_within_it") fd := T.says.def_ 22 (d := d_is_within_it) rfl
theorem Txt.F_joined (T : Txt K mg) : ∃ fd, FunD K "joined" "joined" (defArgs s_joined) (defBody s_joined) (defScope s_joined) [] [] (He.ga K "joined") fd := T.says.def_ 23 (d := d_joined) rfl
theorem Txt.F_solved (T : Txt K mg) : ∃ fd, FunD K "solved" "solved" (defArgs s_solved) (defBody s_solved) (defScope s_solved) [] [] (He.ga K "solved") fd := T.says.def_ 24 (d := d_solved) rfl
theorem Txt.F_fewest (T : Txt K mg) : ∃ fd, FunD K "fewest" "fewest" (defArgs s_fewest) (defBody s_fewest) (defScope s_fewest) [] [] (He.ga K "fewest") fd := T.says.def_ 25 (d := d_fewest) rfl
theorem Txt.F_told_kind (T : Txt K mg) : ∃ fd, FunD K "told_kind" "told_kind" (defArgs s_told_kind) (defBody s_told_kind) (defScope s_told_kind) [] [] (He.ga K "told_kind") fd := T.says.def_ 26 (d := d_told_kind) rfl
theorem Txt.F_kinds (T : Txt K mg) : ∃ fd, FunD K "kinds" "kinds" (defArgs s_kinds) (defBody s_kinds) (defScope s_kinds) [] [] (He.ga K "kinds") fd := T.says.def_ 27 (d := d_kinds) rfl
theorem Txt.F__law_draws (T : Txt K mg) : ∃ fd, FunD K "_law_draws" "_law_draws" (defArgs s__law_draws) (defBody s__law_draws) (defScope s__law_draws) [] [] (He.ga K "_law_draws") fd := T.says.def_ 28 (d := d__law_draws) rfl
theorem Txt.F__law_draw (T : Txt K mg) : ∃ fd, FunD K "_law_draw" "_law_draw" (defArgs s__law_draw) (defBody s__law_draw) (defScope s__law_draw) [] [] (He.ga K "_law_draw") fd := T.says.def_ 29 (d := d__law_draw) rfl
theorem Txt.F__law_keys (T : Txt K mg) : ∃ fd, FunD K "_law_keys" "_law_keys" (defArgs s__law_keys) (defBody s__law_keys) (defScope s__law_keys) [] [] (He.ga K "_law_keys") fd := T.says.def_ 30 (d := d__law_keys) rfl
theorem Txt.F__law_names (T : Txt K mg) : ∃ fd, FunD K "_law_names" "_law_names" (defArgs s__law_names) (defBody s__law_names) (defScope s__law_names) [] [] (He.ga K "_law_names") fd := T.says.def_ 31 (d := d__law_names) rfl
theorem Txt.F__law_place (T : Txt K mg) : ∃ fd, FunD K "_law_place" "_law_place" (defArgs s__law_place) (defBody s__law_place) (defScope s__law_place) [] [] (He.ga K "_law_place") fd := T.says.def_ 32 (d := d__law_place) rfl
theorem Txt.F__law_leaf (T : Txt K mg) : ∃ fd, FunD K "_law_leaf" "_law_leaf" (defArgs s__law_leaf) (defBody s__law_leaf) (defScope s__law_leaf) [] [] (He.ga K "_law_leaf") fd := T.says.def_ 33 (d := d__law_leaf) rfl
theorem Txt.F__law_loop (T : Txt K mg) : ∃ fd, FunD K "_law_loop" "_law_loop" (defArgs s__law_loop) (defBody s__law_loop) (defScope s__law_loop) [] [] (He.ga K "_law_loop") fd := T.says.def_ 34 (d := d__law_loop) rfl
theorem Txt.F__law_op (T : Txt K mg) : ∃ fd, FunD K "_law_op" "_law_op" (defArgs s__law_op) (defBody s__law_op) (defScope s__law_op) [] [] (He.ga K "_law_op") fd := T.says.def_ 35 (d := d__law_op) rfl
theorem Txt.F__law_call (T : Txt K mg) : ∃ fd, FunD K "_law_call" "_law_call" (defArgs s__law_call) (defBody s__law_call) (defScope s__law_call) [] [] (He.ga K "_law_call") fd := T.says.def_ 36 (d := d__law_call) rfl
theorem Txt.F__law_tree (T : Txt K mg) : ∃ fd, FunD K "_law_tree" "_law_tree" (defArgs s__law_tree) (defBody s__law_tree) (defScope s__law_tree) [] [] (He.ga K "_law_tree") fd := T.says.def_ 37 (d := d__law_tree) rfl
theorem Txt.F__law_program (T : Txt K mg) : ∃ fd, FunD K "_law_program" "_law_program" (defArgs s__law_program) (defBody s__law_program) (defScope s__law_program) [] [] (He.ga K "_law_program") fd := T.says.def_ 38 (d := d__law_program) rfl
theorem Txt.F__law_subs (T : Txt K mg) : ∃ fd, FunD K "_law_subs" "_law_subs" (defArgs s__law_subs) (defBody s__law_subs) (defScope s__law_subs) [] [] (He.ga K "_law_subs") fd := T.says.def_ 39 (d := d__law_subs) rfl
theorem Txt.F__law_count (T : Txt K mg) : ∃ fd, FunD K "_law_count" "_law_count" (defArgs s__law_count) (defBody s__law_count) (defScope s__law_count) [] [] (He.ga K "_law_count") fd := T.says.def_ 40 (d := d__law_count) rfl
theorem Txt.F__law_with (T : Txt K mg) : ∃ fd, FunD K "_law_with" "_law_with" (defArgs s__law_with) (defBody s__law_with) (defScope s__law_with) [] [] (He.ga K "_law_with") fd := T.says.def_ 41 (d := d__law_with) rfl
theorem Txt.F__law_changed (T : Txt K mg) : ∃ fd, FunD K "_law_changed" "_law_changed" (defArgs s__law_changed) (defBody s__law_changed) (defScope s__law_changed) [] [] (He.ga K "_law_changed") fd := T.says.def_ 42 (d := d__law_changed) rfl
theorem Txt.F__law_new (T : Txt K mg) : ∃ fd, FunD K "_law_new" "_law_new" (defArgs s__law_new) (defBody s__law_new) (defScope s__law_new) [] [] (He.ga K "_law_new") fd := T.says.def_ 43 (d := d__law_new) rfl
theorem Txt.F__law_pairs (T : Txt K mg) : ∃ fd, FunD K "_law_pairs" "_law_pairs" (defArgs s__law_pairs) (defBody s__law_pairs) (defScope s__law_pairs) [] [] (He.ga K "_law_pairs") fd := T.says.def_ 44 (d := d__law_pairs) rfl
theorem Txt.F__law_demand (T : Txt K mg) : ∃ fd, FunD K "_law_demand" "_law_demand" (defArgs s__law_demand) (defBody s__law_demand) (defScope s__law_demand) [] [] (He.ga K "_law_demand") fd := T.says.def_ 45 (d := d__law_demand) rfl
theorem Txt.F__law_demands (T : Txt K mg) : ∃ fd, FunD K "_law_demands" "_law_demands" (defArgs s__law_demands) (defBody s__law_demands) (defScope s__law_demands) [] [] (He.ga K "_law_demands") fd := T.says.def_ 46 (d := d__law_demands) rfl
theorem Txt.F__law_put (T : Txt K mg) : ∃ fd, FunD K "_law_put" "_law_put" (defArgs s__law_put) (defBody s__law_put) (defScope s__law_put) [] [] (He.ga K "_law_put") fd := T.says.def_ 47 (d := d__law_put) rfl
theorem Txt.F__law_solved (T : Txt K mg) : ∃ fd, FunD K "_law_solved" "_law_solved" (defArgs s__law_solved) (defBody s__law_solved) (defScope s__law_solved) [] [] (He.ga K "_law_solved") fd := T.says.def_ 48 (d := d__law_solved) rfl
theorem Txt.F_law (T : Txt K mg) : ∃ fd, FunD K "law" "law" (defArgs s_law) (defBody s_law) (defScope s_law) [] [] (He.ga K "law") fd := T.says.def_ 49 (d := d_law) rfl
theorem Txt.keys (T : Txt K mg) (H : Hp) : SqT K H (He.ga K "KEYS") (keysL.map V.str) := He.tupB_ok (He.ba T.ex).1 H
theorem Txt.ops (T : Txt K mg) (H : Hp) : SqT K H (He.ga K "OPS") (opsL.map V.str) := He.tupB_ok (He.ba T.ex).2 H
end
end Tp
set_option Elab.async false
set_option linter.all false
set_option maxRecDepth 100000
set_option maxHeartbeats 0
namespace Tp
open PySem PySem.Spec PyProof.Rows L2
def tfD : List He.Defn := [("law", none)]
def loose0 : List PySem.Str := [("TierError" : PySem.Str), ("NoForm" : PySem.Str), ("NoProgram" : PySem.Str), ("NotNow" : PySem.Str), ("Unsound" : PySem.Str), ("KEYS" : PySem.Str), ("LETTERS" : PySem.Str), ("DEEP" : PySem.Str)]
def loose1 : List PySem.Str := [("MOST_DEFS" : PySem.Str), ("MOST_PARTS" : PySem.Str), ("MOST_NUMBER" : PySem.Str), ("OPS" : PySem.Str), ("is_within" : PySem.Str), ("is_name" : PySem.Str), ("is_place" : PySem.Str), ("is_node" : PySem.Str)]
def loose2 : List PySem.Str := [("subtrees" : PySem.Str), ("is_tree" : PySem.Str), ("is_def" : PySem.Str), ("is_program" : PySem.Str), ("need_program" : PySem.Str), ("scoped" : PySem.Str), ("use_faults" : PySem.Str), ("tree_faults" : PySem.Str)]
def loose3 : List PySem.Str := [("faults" : PySem.Str), ("need_sound" : PySem.Str), ("Demands" : PySem.Str), ("seen" : PySem.Str), ("is_within_it" : PySem.Str), ("joined" : PySem.Str), ("solved" : PySem.Str), ("fewest" : PySem.Str)]
def loose4 : List PySem.Str := [("told_kind" : PySem.Str), ("kinds" : PySem.Str), ("_law_draws" : PySem.Str), ("_law_draw" : PySem.Str), ("_law_keys" : PySem.Str), ("_law_names" : PySem.Str), ("_law_place" : PySem.Str), ("_law_leaf" : PySem.Str)]
def loose5 : List PySem.Str := [("_law_loop" : PySem.Str), ("_law_op" : PySem.Str), ("_law_call" : PySem.Str), ("_law_tree" : PySem.Str), ("_law_program" : PySem.Str), ("_law_subs" : PySem.Str), ("_law_count" : PySem.Str), ("_law_with" : PySem.Str)]
def loose6 : List PySem.Str := [("_law_changed" : PySem.Str), ("_law_new" : PySem.Str), ("_law_pairs" : PySem.Str), ("_law_demand" : PySem.Str), ("_law_demands" : PySem.Str), ("_law_put" : PySem.Str), ("_law_solved" : PySem.Str)]
def loose : List PySem.Str := loose0 ++ (loose1 ++ (loose2 ++ (loose3 ++ (loose4 ++ (loose5 ++ (loose6))))))
abbrev R : PySem.W.OpenRow := PySem.W.OpenLaw.row PySem.Challenge.rw_tierpile_k44_whole_places_of_a_clash
abbrev hk : PySem.W.Hook := He.hookX 5 fa fn [] tfD exB
def ob (s : PySem.W.SharedT) : He.AlX := He.obsX 5 fa fn [] tfD exB (HandSHeadRun.getT s)
theorem ob_eq (s : PySem.W.SharedT) : ob s = hk.obs s.abs := He.obsX_eq (HandSHeadRun.getT_eq s)
theorem run (w : World) : HandSHeadRun.RunEq R (PySem.W.view R.prog [60]) hk ob 4000 loose w := by
  intro os
  kernel_rfl
abbrev theD : DefRec := HandSHeadRun.topDef R.prog 60
theorem theD_name : theD.name = ("law" : PySem.Str) := by kernel_rfl
theorem theD_dflt : theD.params.defaults = [] := by kernel_rfl
open PySem.W PySem.Calls in
/-- what is left: the law's own call -/
theorem from_walk (call : PySem.W.WalkO (view R.prog [60]) loose (XL (view R.prog [60]) []) hk.says R.toRowW theD [] fun f vs => PySem.call f vs) : PySem.Challenge.rw_tierpile_k44_whole_places_of_a_clash.Holds := by
  w_on; o_law
  refine HandSHeadRun.head_any (r := R) (q := view R.prog [60]) (H := hk) (ob := ob) (M := 4000) (loose := loose) (d := theD) (kwd := []) ob_eq
    (by kernel_rfl) (fun s => by kernel_rfl) run (by kernel_rfl) (by kernel_rfl) (by kernel_rfl) (by rfl) (by first | assumption | decide +kernel) (by decide +kernel) ⟨rfl, rfl, rfl, rfl, rfl, by decide +kernel⟩ ?hw call
  case hw => w_witness2
end Tp
set_option Elab.async false
set_option linter.all false
set_option maxRecDepth 100000
set_option maxHeartbeats 4000000
namespace Tp
open PySem PySem.Spec PyProof.Rows L2

/-! ### walks: comprehensions and for -/
def LcB (J : It) (g : TG) (tt : TT) (te : TE) (vs : List Nat) (σ : L2.St) (H1 : Hp) (Q : VK) : Prop := ∀ D, H1 D = none → ∃ W : Nat → Nat → Hp → Prop, (∃ m, W 0 m (upd H1 D (.lst []))) ∧ ∀ i m H, W i m H →
  (J.stop i H ∧ Q (.ref D) H) ∨ (J.go i H ∧ ∃ Nx : Hp → Prop, (∀ H', Nx H' → ∃ m', m' < m ∧ W (i + 1) m' H') ∧ ∀ x H', J.yld i H x H' → g x (wipe σ vs) H' fun σ2 H2 => wipe σ2 vs = wipe σ vs ∧ tt σ2 H2 fun b H3 =>
    if b = true then te σ2 H3 fun y H4 => ∃ acc, H4 D = some (.lst acc) ∧ acc.length < sizeLine ∧ Nx (upd H4 D (.lst (acc ++ [y]))) else Nx H3)
def ForB (J : It) (g : TG) (tb : TS) (D : Ends) (σ : L2.St) (H : Hp) : Prop := ∃ W : Nat → Nat → L2.St → Hp → Prop, (∃ m, W 0 m σ H) ∧ ∀ i m σ H, W i m σ H →
  (J.stop i H ∧ D.nx σ H) ∨ (J.go i H ∧ ∃ N : L2.St → Hp → Prop, (∀ σ' H', N σ' H' → ∃ m', m' < m ∧ W (i + 1) m' σ' H') ∧ ∀ x H', J.yld i H x H' → g x σ H' fun σ2 H2 => tb ⟨N, D.rt, D.nx, N⟩ σ2 H2)
section
variable {K : PySem.W.Frag} {σ : L2.St} {H H1 H4 : Hp} {Q : VK} {te tl : TE} {wi : TI} {g : TG} {tt : TT} {vs : List Nat} {tb : TS} {D : Ends} {J : It} {n : Nat} {G : Hp → Prop} {Y : Nat → Hp → V → Hp → Prop} {R : It → Hp → Prop} {M : List Addr}
theorem r_lc (h : wi σ H fun J H1 => LcB J g tt te vs σ H1 Q) : tLc wi g tt te vs σ H Q := h
theorem r_for (h : wi σ H fun J H1 => ForB J g tb D σ H1) : tFor wi g tb D σ H := h
theorem r_iList (h : tl σ H fun x H1 => ∃ a, x = .ref a ∧ (∃ xs, SqL K H1 a xs) ∧ R (Itl K a) H1) : iList K tl σ H R := h
theorem r_iTup (h : tl σ H fun x H1 => ∃ a, x = .ref a ∧ (∃ xs, SqT K H1 a xs) ∧ R (Itt K a) H1) : iTup K tl σ H R := h
theorem r_itl {a : Addr} {xs : List V} (h : H a = some (.lst xs)) (q : R (Itl K a) H) : ∃ b, V.ref a = .ref b ∧ (∃ xs, SqL K H b xs) ∧ R (Itl K b) H := ⟨a, rfl, ⟨xs, SqL.of h⟩, q⟩
theorem r_itt {a : Addr} {xs : List V} (h : H a = some (.tup xs)) (q : R (Itt K a) H) : ∃ b, V.ref a = .ref b ∧ (∃ xs, SqT K H b xs) ∧ R (Itt K b) H := ⟨a, rfl, ⟨xs, SqT.of h⟩, q⟩
/-- D is new and is written: all that was there is kept -/
theorem Kp.upd_new {a : Addr} {o : HO} (k : Kp M H1 H4) (h : H1 a = none) : Kp M H1 (upd H4 a o) := by
  refine ⟨fun b u e n => ?_, fun b xs e => ?_, fun b u e => ?_⟩
  · rw [upd_ne (ne_of_none e h)]
    exact k.keep b u e n
  · rw [upd_ne (ne_of_none e h)]
    exact k.tups b xs e
  · rw [upd_ne (ne_of_none e h)]
    exact k.there b u e
/-- what holds between two turns of a comprehension: the list so far, at D -/
def LcI (M : List Addr) (R : Nat → List V → Hp → Prop) (H1 : Hp) (D : Addr) (i : Nat) (H : Hp) : Prop := ∃ acc : List V, acc.length ≤ i ∧ Kp M H1 H ∧ H D = some (.lst acc) ∧ R i acc H
theorem lc_fin {Rr : Nat → List V → Hp → Prop} {D : Addr} {i : Nat} {acc : List V} {y : V} (hD : H1 D = none) (hi : i < 100000) (hl : acc.length ≤ i) (k : Kp M H1 H4) (h4 : H4 D = some (.lst acc))
    (r : ∀ H5, Kp [D] H4 H5 → Rr (i + 1) (acc ++ [y]) H5) :
    ∃ acc, H4 D = some (.lst acc) ∧ acc.length < sizeLine ∧ LcI M Rr H1 D (i + 1) (upd H4 D (.lst (acc ++ [y]))) := by
  refine ⟨acc, h4, Nat.lt_of_lt_of_le (Nat.lt_of_le_of_lt hl hi) (by decide), acc ++ [y], by simp; omega, k.upd_new hD, upd_same, r _ (Kp.wr (by simp) h4 rfl)⟩
/-- a comprehension over a walk -/
theorem lcW (w : Walk J n G Y) (hn : n ≤ 100000) (M : List Addr) (R : Nat → List V → Hp → Prop) (hG : ∀ H, Kp M H1 H → G H)
    (h0 : ∀ D H2, H1 D = none → Kp [] H1 H2 → R 0 [] H2)
    (hs : ∀ i x D acc H H', i < n → H1 D = none → acc.length ≤ i → Kp M H1 H → H D = some (.lst acc) → R i acc H → Y i H x H' → g x (wipe σ vs) H' fun σ2 H2 => wipe σ2 vs = wipe σ vs ∧ tt σ2 H2 fun b H3 =>
      if b = true then te σ2 H3 fun y H4 => ∃ acc, H4 D = some (.lst acc) ∧ acc.length < sizeLine ∧ LcI M R H1 D (i + 1) (upd H4 D (.lst (acc ++ [y]))) else LcI M R H1 D (i + 1) H3)
    (hd : ∀ D acc H, H1 D = none → acc.length ≤ n → Kp M H1 H → H D = some (.lst acc) → R n acc H → Q (.ref D) H) : LcB J g tt te vs σ H1 Q := by
  intro D hD
  refine lc_it w (LcI M R H1 D) ⟨[], Nat.le_refl _, Kp.new hD, upd_same, h0 D _ hD (Kp.new hD)⟩ (fun i H _ p => ?_) (fun i x H H' hi p y => ?_) (fun H p => ?_)
  · obtain ⟨acc, _, k, _⟩ := p
    exact hG H k
  · obtain ⟨acc, hl, k, h1, r⟩ := p
    exact hs i x D acc H H' hi hD hl k h1 r y
  · obtain ⟨acc, hl, k, h1, r⟩ := p
    exact hd D acc H hD hl k h1 r
/-- a for over a walk -/
theorem forW (w : Walk J n G Y) (Pv : Nat → L2.St → Hp → Prop) (h0 : Pv 0 σ H) (hG : ∀ i σ H, i ≤ n → Pv i σ H → G H)
    (hs : ∀ i x σ H H', i < n → Pv i σ H → Y i H x H' → g x σ H' fun σ2 H2 => tb ⟨Pv (i + 1), D.rt, D.nx, Pv (i + 1)⟩ σ2 H2) (hd : ∀ σ H, Pv n σ H → D.nx σ H) : ForB J g tb D σ H :=
  for_it w Pv h0 hG hs hd
theorem r_iStr (h : te σ H fun v H1 => ∃ x, v = .str x ∧ R (Its x) H1) : iStr te σ H R := h
theorem r_its {x : Str} (q : R (Its x) H) : ∃ z, V.str x = .str z ∧ R (Its z) H := ⟨x, rfl, q⟩
/-- a comprehension all of whose items are True -/
theorem lcAll (w : Walk J n G Y) (hn : n ≤ 100000) (hG : ∀ H, Kp [] H1 H → G H)
    (hs : ∀ i x D acc H H', i < n → H1 D = none → acc.length ≤ i → Kp [] H1 H → H D = some (.lst acc) → (∀ y ∈ acc, y = V.bl true) → Y i H x H' → g x (wipe σ vs) H' fun σ2 H2 => wipe σ2 vs = wipe σ vs ∧ tt σ2 H2 fun b H3 =>
      if b = true then te σ2 H3 fun y H4 => ∃ acc, H4 D = some (.lst acc) ∧ acc.length < sizeLine ∧ LcI [] (fun _ acc _ => ∀ y ∈ acc, y = V.bl true) H1 D (i + 1) (upd H4 D (.lst (acc ++ [y]))) else LcI [] (fun _ acc _ => ∀ y ∈ acc, y = V.bl true) H1 D (i + 1) H3)
    (hd : ∀ D acc H, Kp [] H1 H → H D = some (.lst acc) → (∀ y ∈ acc, y = V.bl true) → Q (.ref D) H) : LcB J g tt te vs σ H1 Q :=
  lcW w hn [] (fun _ acc _ => ∀ y ∈ acc, y = V.bl true) hG (fun _ _ _ _ y hy => by cases hy) hs fun D acc H _ _ k h r => hd D acc H k h r
theorem lc_finT {D : Addr} {i : Nat} {acc : List V} (hD : H1 D = none) (hi : i < n) (hn : n ≤ 100000) (hl : acc.length ≤ i) (k : Kp [] H1 H4) (h4 : H4 D = some (.lst acc)) (r : ∀ y ∈ acc, y = V.bl true) :
    ∃ acc, H4 D = some (.lst acc) ∧ acc.length < sizeLine ∧ LcI [] (fun _ acc _ => ∀ y ∈ acc, y = V.bl true) H1 D (i + 1) (upd H4 D (.lst (acc ++ [V.bl true]))) :=
  lc_fin hD (by omega) hl k h4 fun _ _ y hy => by
    rcases List.mem_append.mp hy with z | z
    · exact r y z
    · exact List.mem_singleton.mp z
theorem r_sl {r : V → Option Int → Option Int → Hp → VK → Prop} {th tlo : TO} (h : te σ H fun x H1 => tlo σ H1 fun l H2 => th σ H2 fun u H3 => r x l u H3 Q) : tSl r te tlo th σ H Q := h
theorem r_part {Q : Option Int → Hp → Prop} (h : te σ H fun x H1 => ∃ i, x = .int i ∧ Q (some i) H1) : tPart te σ H Q := h
theorem r_nopart {Q : Option Int → Hp → Prop} (h : Q none H) : tNoPart σ H Q := h
theorem r_dget {td ty : TE} (h : td σ H fun x H1 => ty σ H1 fun y H2 => ∃ a v, x = .ref a ∧ DGet H2 a y (some v) ∧ Q v H2) : tDGet td ty σ H Q := h
theorem r_din {td ty : TE} (h : ty σ H fun y H1 => td σ H1 fun x H2 => ∃ a o, x = .ref a ∧ DGet H2 a y o ∧ Q (.bl o.isSome) H2) : tDIn ty td σ H Q := h
theorem r_dnotin {td ty : TE} (h : ty σ H fun y H1 => td σ H1 fun x H2 => ∃ a o, x = .ref a ∧ DGet H2 a y o ∧ Q (.bl (!o.isSome)) H2) : tDNotIn ty td σ H Q := h
theorem r_dput {td ty tv : TE} (h : tv σ H fun v H1 => td σ H1 fun x H2 => ty σ H2 fun y H3 => ∃ a H4, x = .ref a ∧ DPut H3 a y v H4 ∧ D.nx σ H4) : sDPut td ty tv D σ H := h
theorem r_dget_s {d : Addr} {x : Str} {v : V} {kvs : List (Key × V)} {P : Addr → V → Prop} (h : H d = some (.dK kvs)) (e : valV kvs (.inr x) = some v) (q : P d v) : ∃ a v, V.ref d = .ref a ∧ DGet H a (.str x) (some v) ∧ P a v := ⟨d, v, rfl, by rw [← e]; exact DGet.k (k := Sum.inr x) h, q⟩
theorem r_dget_i {d : Addr} {x : Int} {v : V} {kvs : List (Key × V)} {P : Addr → V → Prop} (h : H d = some (.dK kvs)) (e : valV kvs (.inl x) = some v) (q : P d v) : ∃ a v, V.ref d = .ref a ∧ DGet H a (.int x) (some v) ∧ P a v := ⟨d, v, rfl, by rw [← e]; exact DGet.k (k := Sum.inl x) h, q⟩
theorem r_din_s {d : Addr} {x : Str} {kvs : List (Key × V)} {P : Addr → Option V → Prop} (h : H d = some (.dK kvs)) (q : P d (valV kvs (.inr x))) : ∃ a o, V.ref d = .ref a ∧ DGet H a (.str x) o ∧ P a o := ⟨d, _, rfl, DGet.k (k := Sum.inr x) h, q⟩
theorem r_din_i {d : Addr} {x : Int} {kvs : List (Key × V)} {P : Addr → Option V → Prop} (h : H d = some (.dK kvs)) (q : P d (valV kvs (.inl x))) : ∃ a o, V.ref d = .ref a ∧ DGet H a (.int x) o ∧ P a o := ⟨d, _, rfl, DGet.k (k := Sum.inl x) h, q⟩
theorem r_dput_s {d : Addr} {x : Str} {v : V} {kvs : List (Key × V)} {P : Addr → Hp → Prop} (h : H d = some (.dK kvs)) (hl : kvs.length ≤ 1000) (q : ∀ H2, Kp [d] H H2 → H2 d = some (.dK (putK kvs (.inr x) v)) → P d H2) : ∃ a H4, V.ref d = .ref a ∧ DPut H a (.str x) v H4 ∧ P a H4 :=
  ⟨d, _, rfl, DPut.k (k := Sum.inr x) h (small1000 hl), q _ (Kp.wr (by simp) h rfl) upd_same⟩
theorem r_dput_i {d : Addr} {x : Int} {v : V} {kvs : List (Key × V)} {P : Addr → Hp → Prop} (h : H d = some (.dK kvs)) (hl : kvs.length ≤ 1000) (q : ∀ H2, Kp [d] H H2 → H2 d = some (.dK (putK kvs (.inl x) v)) → P d H2) : ∃ a H4, V.ref d = .ref a ∧ DPut H a (.int x) v H4 ∧ P a H4 :=
  ⟨d, _, rfl, DPut.k (k := Sum.inl x) h (small1000 hl), q _ (Kp.wr (by simp) h rfl) upd_same⟩
theorem r_yes1 {Q : Bool → Hp → Prop} (h : Q true H) : tYes σ H Q := h
theorem r_gName {v : V} {i : Nat} {Q : L2.St → Hp → Prop} (h : Q (σ.set i (some v)) H) : gName i v σ H Q := h
theorem r_gTup {v : V} {n : Nat} {t : TGs} {Q : L2.St → Hp → Prop} {a : Addr} {xs : List V} (e : v = .ref a) (h : H a = some (.tup xs)) (hl : xs.length = n) (q : t xs σ H Q) : gTup K n t v σ H Q := ⟨a, xs, e, SqT.of h, hl, q⟩
theorem r_gCons {t : TG} {u : TGs} {v : V} {vs : List V} {Q : L2.St → Hp → Prop} (h : t v σ H fun σ' H' => u vs σ' H' Q) : gCons t u (v :: vs) σ H Q := ⟨v, vs, rfl, h⟩
theorem r_gNil {Q : L2.St → Hp → Prop} (h : Q σ H) : gNil [] σ H Q := ⟨rfl, h⟩
end

/-! ### rules by values, the heap behind a letter -/
theorem CallR.imp {X : Cx} {f : Value} {r r' : List V → Hp → VK → Prop} (h : CallR X f r) (i : ∀ xs H Q, r' xs H Q → r xs H Q) : CallR X f r' := fun pins s σ H xs us Q I rv q => h pins s σ H xs us Q I rv (i xs H Q q)
theorem OpR.imp {X : Cx} {f : Value → Value → Sem Value} {r r' : R2} (h : OpR X f r) (i : ∀ x y H Q, r' x y H Q → r x y H Q) : OpR X f r' := fun pins s σ H x y v u Q I rx ry q => h pins s σ H x y v u Q I rx ry (i x y H Q q)
theorem SlR.imp {X : Cx} {r r' : V → Option Int → Option Int → Hp → VK → Prop} (h : SlR X r) (i : ∀ x lo hi H Q, r' x lo hi H Q → r x lo hi H Q) : SlR X r' := fun pins s σ H x v vl vu lo hi sl Q I rx hs pl pu q => h pins s σ H x v vl vu lo hi sl Q I rx hs pl pu (i x lo hi H Q q)
theorem MtR.imp {X : Cx} {id : String} {r r' : V → List V → Hp → VK → Prop} (h : MtR X id r) (i : ∀ x xs H Q, r' x xs H Q → r x xs H Q) : MtR X id r' := fun pins s σ H x xs v us Q I rx rxs q => h pins s σ H x xs v us Q I rx rxs (i x xs H Q q)
/-- len -/
def rLenX (K : PySem.W.Frag) : List V → Hp → VK → Prop := fun xs H Q => ∃ x n, xs = [x] ∧ LenV K x H n ∧ Q (.int n) H
theorem call_lenX {X : Cx} : CallR X (.builtin "len") (rLenX X.K) := call_len
/-- list(..) -/
def rListK (K : PySem.W.Frag) : List V → Hp → VK → Prop := fun xs H Q => ∃ p ys, xs = [.ref p] ∧ (SqL K H p ys ∨ SqT K H p ys) ∧ ∀ l H2, Kp [] H H2 → H l = none → H2 l = some (.lst ys) → Q (.ref l) H2
theorem call_listK {X : Cx} : CallR X (.type "list") (rListK X.K) := CallR.imp call_list_of fun xs H Q h => by
  obtain ⟨p, ys, e, h1, h2⟩ := h
  exact ⟨p, ys, e, h1, fun l hl => h2 l _ (Kp.new hl) hl upd_same⟩
/-- tuple(..) -/
def rTupleK (K : PySem.W.Frag) : List V → Hp → VK → Prop := fun xs H Q => ∃ p ys, xs = [.ref p] ∧ ((SqL K H p ys ∧ ∀ l H2, Kp [] H H2 → H l = none → H2 l = some (.tup ys) → Q (.ref l) H2) ∨ (SqT K H p ys ∧ Q (.ref p) H))
theorem call_tupleK {X : Cx} : CallR X (.type "tuple") (rTupleK X.K) := CallR.imp call_tuple_of fun xs H Q h => by
  obtain ⟨p, ys, e, h1 | h1⟩ := h
  · exact ⟨p, ys, e, .inl ⟨h1.1, fun l hl => h1.2 l _ (Kp.new hl) hl upd_same⟩⟩
  · exact ⟨p, ys, e, .inr h1⟩
/-- t[lo:hi], t a tuple of data -/
def cutD {α : Type} (ds : List α) (lo hi : Option Int) : List α := (ds.drop (HT.sIx ds.length 0 lo)).take (HT.sIx ds.length ds.length hi - HT.sIx ds.length 0 lo)
def rSlTK : V → Option Int → Option Int → Hp → VK → Prop := fun x lo hi H Q => ∃ ds, TD H x (.tuple ds) ∧ ∀ y H2, Kp [] H H2 → TD H2 y (.tuple (cutD ds lo hi)) → Q y H2
theorem sl_tupK {X : Cx} : SlR X rSlTK := SlR.imp (sl_tupA (X := X)) fun x lo hi H Q h => by
  obtain ⟨ds, h1, h2⟩ := h
  obtain ⟨a, xs, rfl, ha, t⟩ := h1.inv
  refine ⟨a, xs, rfl, SqT.of ha, fun hw => ?_, fun hw p hp => ?_⟩
  · refine h2 _ H (Kp.refl _ _) ?_
    have e : cutD ds lo hi = ds := by
      unfold cutD
      rw [← t.1, hw.1, hw.2, t.1]
      simp
    rw [e]
    exact h1
  · have q : TDs H (cutV xs lo hi) (cutD ds lo hi) := by
      unfold cutV cutD
      rw [t.1]
      exact (t.drop _).take _
    exact h2 _ _ (Kp.new hp) (TD.mk upd_same (q.mono (Kp.new (M := []) hp)))
/-- t + u, tuples of data -/
def rCatTK : R2 := fun x y H Q => ∃ ds es, TD H x (.tuple ds) ∧ TD H y (.tuple es) ∧ ds.length + es.length ≤ 1000 ∧ ∀ z H2, Kp [] H H2 → TD H2 z (.tuple (ds ++ es)) → Q z H2
theorem op_catTK {X : Cx} : OpR X (binaryOp .Add) rCatTK := OpR.imp (op_catA (X := X)) fun x y H Q h => by
  obtain ⟨ds, es, h1, h2, hl, q⟩ := h
  obtain ⟨a, xs, rfl, ha, t⟩ := h1.inv
  obtain ⟨b, ys, rfl, hb, u⟩ := h2.inv
  refine ⟨a, b, xs, ys, rfl, rfl, SqT.of ha, SqT.of hb, Nat.le_of_lt (small1000 (by rw [t.1, u.1]; exact hl)), fun e => ?_, fun _ e => ?_, fun _ _ p hp => ?_⟩
  · refine q _ H (Kp.refl _ _) ?_
    have e2 : ds = [] := by
      have := t.1
      rw [e] at this
      exact List.length_eq_zero_iff.mp this.symm
    rw [e2]
    exact h2
  · refine q _ H (Kp.refl _ _) ?_
    have e2 : es = [] := by
      have := u.1
      rw [e] at this
      exact List.length_eq_zero_iff.mp this.symm
    rw [e2, List.append_nil]
    exact h1
  · exact q _ _ (Kp.new hp) (TD.mk upd_same ((t.mono (Kp.new (M := []) hp)).append (u.mono (Kp.new (M := []) hp))))
/-- xs + ys, lists -/
def rCatK : R2 := fun x y H Q => ∃ l b xs zs, x = .ref l ∧ y = .ref b ∧ H l = some (.lst xs) ∧ H b = some (.lst zs) ∧ xs.length + zs.length ≤ 1000 ∧ ∀ p H2, Kp [] H H2 → H p = none → H2 p = some (.lst (xs ++ zs)) → Q (.ref p) H2
theorem op_catK {X : Cx} : OpR X (binaryOp .Add) rCatK := OpR.imp (op_cat (X := X)) fun x y H Q h => by
  obtain ⟨l, b, xs, zs, h1, h2, h3, h4, h5, h6⟩ := h
  exact ⟨l, b, xs, zs, h1, h2, h3, h4, Nat.le_of_lt (small1000 h5), fun p hp => h6 p _ (Kp.new hp) hp upd_same⟩
section
variable {K : PySem.W.Frag} {σ : L2.St} {H : Hp} {Q : VK} {x y v : V} {ds es : List PyData} {d : PyData} {a l : Addr} {xs : List V}
theorem r_len_td (h : TD H x (.tuple ds)) (q : Q (.int (ds.length : Nat)) H) : rLenX K [x] H Q := by
  obtain ⟨a, xs, rfl, ha, t⟩ := h.inv
  exact ⟨_, ds.length, rfl, .inr ⟨xs, SqT.of ha, t.1.symm⟩, q⟩
theorem r_len_l (h : H l = some (.lst xs)) (q : Q (.int (xs.length : Nat)) H) : rLenX K [.ref l] H Q := ⟨_, xs.length, rfl, .inl ⟨xs, SqL.of h, rfl⟩, q⟩
theorem r_len_s {z : Str} (h : z.length ≤ 1000) (q : Q (.int (z.length : Nat)) H) : rLenX K [.str z] H Q := ⟨_, z.length, rfl, ⟨Nat.le_of_lt (small1000 h), rfl⟩, q⟩
theorem r_list_td (h : TD H x (.tuple ds)) (q : ∀ l ys H2, Kp [] H H2 → H l = none → H2 l = some (.lst ys) → TDs H2 ys ds → Q (.ref l) H2) : rListK K [x] H Q := by
  obtain ⟨a, xs, rfl, ha, t⟩ := h.inv
  exact ⟨a, xs, rfl, .inr (SqT.of ha), fun l H2 k n e => q l xs H2 k n e (t.mono k)⟩
theorem r_tuple_l (h : H l = some (.lst xs)) (t : TDs H xs ds) (q : ∀ y H2, Kp [] H H2 → TD H2 y (.tuple ds) → Q y H2) : rTupleK K [.ref l] H Q :=
  ⟨l, xs, rfl, .inl ⟨SqL.of h, fun p H2 k n e => q _ H2 k (TD.mk e (t.mono k))⟩⟩
/-- a text in a written tuple of texts -/
theorem inV_strs {s : Str} {ns : List Str} : inV (.str s) (ns.map V.str) = decide (s ∈ ns) := by
  unfold inV
  rw [Bool.eq_iff_iff, List.any_eq_true, decide_eq_true_eq]
  constructor
  · rintro ⟨y, hy, e⟩
    obtain ⟨n, hn, rfl⟩ := List.mem_map.mp hy
    have e2 : (n == s) = true := by simpa [eqV] using e
    rw [beq_iff_eq] at e2
    rw [← e2]
    exact hn
  · intro h
    exact ⟨.str s, List.mem_map.mpr ⟨s, h, rfl⟩, by simp [eqV]⟩
theorem flat_strs {ns : List Str} : (ns.map V.str).all flatV = true := by
  rw [List.all_eq_true]
  intro y hy
  obtain ⟨n, _, rfl⟩ := List.mem_map.mp hy
  rfl
theorem r_in_sq {s : Str} {ns : List Str} (h : SqT K H a (ns.map V.str)) (q : Q (.bl (decide (s ∈ ns))) H) : rIn K false (.str s) (.ref a) H Q :=
  ⟨a, _, rfl, .inr h, rfl, flat_strs, by rw [if_neg Bool.false_ne_true, inV_strs]; exact q⟩
theorem r_nin_sq {s : Str} {ns : List Str} (h : SqT K H a (ns.map V.str)) (q : Q (.bl (!decide (s ∈ ns))) H) : rIn K true (.str s) (.ref a) H Q :=
  ⟨a, _, rfl, .inr h, rfl, flat_strs, by rw [if_pos rfl, inV_strs]; exact q⟩
theorem r_in_td {s : Str} {ns : List Str} (h : TD H y (.tuple (ns.map PyData.str))) (q : Q (.bl (decide (s ∈ ns))) H) : rIn K false (.str s) y H Q := by
  obtain ⟨a, xs, rfl, ha, t⟩ := h.inv
  rw [t.strs_inv] at ha
  exact r_in_sq (SqT.of ha) q
theorem r_nin_td {s : Str} {ns : List Str} (h : TD H y (.tuple (ns.map PyData.str))) (q : Q (.bl (!decide (s ∈ ns))) H) : rIn K true (.str s) y H Q := by
  obtain ⟨a, xs, rfl, ha, t⟩ := h.inv
  rw [t.strs_inv] at ha
  exact r_nin_sq (SqT.of ha) q
/-- .. a list of texts -/
theorem r_in_l {s : Str} {ns : List Str} (h : H l = some (.lst (ns.map V.str))) (q : Q (.bl (decide (s ∈ ns))) H) : rIn K false (.str s) (.ref l) H Q :=
  ⟨l, _, rfl, .inl (SqL.of h), rfl, flat_strs, by rw [if_neg Bool.false_ne_true, inV_strs]; exact q⟩
theorem r_nin_l {s : Str} {ns : List Str} (h : H l = some (.lst (ns.map V.str))) (q : Q (.bl (!decide (s ∈ ns))) H) : rIn K true (.str s) (.ref l) H Q :=
  ⟨l, _, rfl, .inl (SqL.of h), rfl, flat_strs, by rw [if_pos rfl, inV_strs]; exact q⟩
/-- isinstance -/
theorem r_isi {a b : String} {r : Bool} (ty : TyX K H x (.type a)) (h : kitB a b = some r) (q : Q (.bl r) H) : rIsi K [x, .ty b] H Q := ⟨x, .ty b, .type a, .type b, r, rfl, .ty b, ty, kit_ty h, q⟩
theorem r_isi_int_int {i : Int} (q : Q (.bl true) H) : rIsi K [.int i, .ty "int"] H Q := r_isi (.base (.int _)) (by decide +kernel) q
theorem r_isi_int_bool {i : Int} (q : Q (.bl false) H) : rIsi K [.int i, .ty "bool"] H Q := r_isi (.base (.int _)) (by decide +kernel) q
theorem r_isi_str_str {i : Str} (q : Q (.bl true) H) : rIsi K [.str i, .ty "str"] H Q := r_isi (.base (.str _)) (by decide +kernel) q
theorem r_isi_int_tup {i : Int} (q : Q (.bl false) H) : rIsi K [.int i, .ty "tuple"] H Q := r_isi (.base (.int _)) (by decide +kernel) q
theorem r_isi_str_tup {i : Str} (q : Q (.bl false) H) : rIsi K [.str i, .ty "tuple"] H Q := r_isi (.base (.str _)) (by decide +kernel) q
theorem r_isi_tup (h : TD H x (.tuple ds)) (q : Q (.bl true) H) : rIsi K [x, .ty "tuple"] H Q := by
  obtain ⟨a, xs, rfl, ha, t⟩ := h.inv
  exact r_isi (.base (.tup ha)) (by decide +kernel) q
/-- all: of a list of Trues -/
theorem r_all_true (h : H l = some (.lst xs)) (t : ∀ x ∈ xs, x = V.bl true) (q : Q (.bl true) H) : rAll K [.ref l] H Q := by
  refine ⟨l, List.replicate xs.length true, rfl, ?_, ?_⟩
  · have e : (List.replicate xs.length true).map V.bl = xs := by
      rw [List.map_replicate]
      exact (List.eq_replicate_iff.mpr ⟨rfl, t⟩).symm
    rw [e]
    exact SqL.of h
  · have e : (List.replicate xs.length true).all id = true := by
      rw [List.all_eq_true]
      intro b hb
      exact (List.mem_replicate.mp hb).2
    rw [e]
    exact q
end
end Tp
set_option Elab.async false
set_option linter.all false
set_option maxRecDepth 100000
set_option maxHeartbeats 4000000
namespace Tp
open PySem PySem.Spec PyProof.Rows L2

/-! ### places, kinds, trees, programs -/
abbrev Pl := Int × Int
def pl (p : Pl) : PyData := .tuple [.int p.1, .int p.2]
def okPl (p : Pl) : Prop := 0 ≤ p.1 ∧ p.1 ≤ 9999 ∧ 0 ≤ p.2 ∧ p.2 ≤ 9999
inductive Kd where
  | num
  | lst (k : Kd)
  | any (n : Int)
  deriving DecidableEq
def kd : Kd → PyData
  | .num => .str "number"
  | .lst k => .tuple [.str "list", kd k]
  | .any n => .tuple [.str "any", .int n]
inductive Tree where
  | num (p : Pl) (n : Int)
  | nil (p : Pl)
  | use (p : Pl) (x : Str) (args : List Tree)
  | op (p : Pl) (s : Str) (l r : Tree)
  | ite (p : Pl) (c y n : Tree)
  | lt (p : Pl) (x : Str) (a b : Tree)
  | cs (p : Pl) (w e : Tree) (h t : Str) (b : Tree)
mutual
def tr : Tree → PyData
  | .num p n => .tuple [.str "num", pl p, .int n]
  | .nil p => .tuple [.str "nil", pl p]
  | .use p x as => .tuple [.str "use", pl p, .str x, .tuple (trs as)]
  | .op p s l r => .tuple [.str "op", pl p, .str s, tr l, tr r]
  | .ite p c y n => .tuple [.str "if", pl p, tr c, tr y, tr n]
  | .lt p x a b => .tuple [.str "let", pl p, .str x, tr a, tr b]
  | .cs p w e h t b => .tuple [.str "case", pl p, tr w, tr e, .str h, .str t, tr b]
def trs : List Tree → List PyData
  | [] => []
  | t :: ts => tr t :: trs ts
end
theorem trs_map : ∀ ts : List Tree, trs ts = ts.map tr
  | [] => by simp [trs]
  | t :: ts => by simp [trs, trs_map ts]
theorem tr_num (p : Pl) (n : Int) : tr (.num p n) = .tuple [.str "num", pl p, .int n] := by simp [tr]
theorem tr_nil (p : Pl) : tr (.nil p) = .tuple [.str "nil", pl p] := by simp [tr]
theorem tr_use (p : Pl) (x : Str) (as : List Tree) : tr (.use p x as) = .tuple [.str "use", pl p, .str x, .tuple (as.map tr)] := by simp [tr, trs_map]
theorem tr_op (p : Pl) (s : Str) (l r : Tree) : tr (.op p s l r) = .tuple [.str "op", pl p, .str s, tr l, tr r] := by simp [tr]
theorem tr_ite (p : Pl) (c y n : Tree) : tr (.ite p c y n) = .tuple [.str "if", pl p, tr c, tr y, tr n] := by simp [tr]
theorem tr_lt (p : Pl) (x : Str) (a b : Tree) : tr (.lt p x a b) = .tuple [.str "let", pl p, .str x, tr a, tr b] := by simp [tr]
theorem tr_cs (p : Pl) (w e : Tree) (h t : Str) (b : Tree) : tr (.cs p w e h t b) = .tuple [.str "case", pl p, tr w, tr e, .str h, .str t, tr b] := by simp [tr]
def Tree.subs : Tree → List Tree
  | .num _ _ => []
  | .nil _ => []
  | .use _ _ as => as
  | .op _ _ l r => [l, r]
  | .ite _ c y n => [c, y, n]
  | .lt _ _ a b => [a, b]
  | .cs _ w e _ _ b => [w, e, b]
def Tree.place : Tree → Pl
  | .num p _ => p
  | .nil p => p
  | .use p _ _ => p
  | .op p _ _ _ => p
  | .ite p _ _ _ => p
  | .lt p _ _ _ => p
  | .cs p _ _ _ _ _ => p
def Tree.word : Tree → Str
  | .num _ _ => "num"
  | .nil _ => "nil"
  | .use _ _ _ => "use"
  | .op _ _ _ _ => "op"
  | .ite _ _ _ _ => "if"
  | .lt _ _ _ _ => "let"
  | .cs _ _ _ _ _ _ => "case"
/-- every tree is a tuple of its word, its place and more -/
def Tree.more : Tree → List PyData
  | .num _ n => [.int n]
  | .nil _ => []
  | .use _ x as => [.str x, .tuple (as.map tr)]
  | .op _ s l r => [.str s, tr l, tr r]
  | .ite _ c y n => [tr c, tr y, tr n]
  | .lt _ x a b => [.str x, tr a, tr b]
  | .cs _ w e h t b => [tr w, tr e, .str h, .str t, tr b]
theorem tr_eq (t : Tree) : tr t = .tuple (.str t.word :: pl t.place :: t.more) := by
  cases t <;> simp [tr, trs_map, Tree.word, Tree.place, Tree.more]
/-- the depth is at most n -/
inductive Dep : Nat → Tree → Prop
  | mk {n : Nat} {t : Tree} (h : ∀ s ∈ t.subs, Dep n s) : Dep (n + 1) t
/-- P holds of all trees within one -/
inductive AllT (P : Tree → Prop) : Tree → Prop
  | mk {t : Tree} (h : P t) (hs : ∀ s ∈ t.subs, AllT P s) : AllT P t
theorem AllT.here {P : Tree → Prop} {t : Tree} (h : AllT P t) : P t := by
  cases h with
  | mk h _ => exact h
theorem AllT.sub {P : Tree → Prop} {t s : Tree} (h : AllT P t) (hs : s ∈ t.subs) : AllT P s := by
  cases h with
  | mk _ h => exact h s hs
theorem Dep.sub {n : Nat} {t s : Tree} (h : Dep (n + 1) t) (hs : s ∈ t.subs) : Dep n s := by
  cases h with
  | mk h => exact h s hs
theorem Dep.up {n : Nat} {t : Tree} (h : Dep n t) : ∀ {m : Nat}, n ≤ m → Dep m t := by
  induction h with
  | mk _ ih =>
    intro m hm
    obtain ⟨m, rfl⟩ : ∃ k, m = k + 1 := ⟨m - 1, by omega⟩
    exact .mk fun s hs => ih s hs (by omega)
def okName (x : Str) : Prop := 1 ≤ x.length ∧ x.length ≤ 8 ∧ x ∉ keysL ∧ ∀ c ∈ x.cps.toList, c ∈ ("abcdefghijklmnopqrstuvwxyz" : Str).cps.toList
def okN : Tree → Prop
  | .num p n => okPl p ∧ 0 ≤ n ∧ n ≤ 999999999
  | .nil p => okPl p
  | .use p x as => okPl p ∧ okName x ∧ as.length ≤ 4
  | .op p s _ _ => okPl p ∧ s ∈ opsL
  | .ite p _ _ _ => okPl p
  | .lt p x _ _ => okPl p ∧ okName x
  | .cs p _ _ h t _ => okPl p ∧ okName h ∧ okName t
theorem okN.pl {t : Tree} (h : okN t) : okPl t.place := by
  cases t <;> simp [okN, Tree.place] at * <;> first | exact h | exact h.1
structure Df where
  p : Pl
  name : Str
  params : List Str
  body : Tree
def df (d : Df) : PyData := .tuple [.str "def", pl d.p, .str d.name, .tuple (d.params.map PyData.str), tr d.body]
structure okDf (d : Df) : Prop where
  p : okPl d.p
  name : okName d.name
  few : d.params.length ≤ 4
  params : ∀ x ∈ d.params, okName x
  dep : Dep 10 d.body
  body : AllT okN d.body
theorem pl_lay (p : Pl) : (pl p).canLay0 = true := by simp [pl, PyData.canLay0, PyData.canLayAll0]
theorem pl_dep (p : Pl) : (pl p).depth = 1 := by simp [pl, PyData.depth, PyData.depthAll]
theorem kd_lay : ∀ k : Kd, (kd k).canLay0 = true
  | .num => by simp [kd, PyData.canLay0]; decide +kernel
  | .lst k => by
    have h : PyData.strOk (Str.ofString "list") = true := by decide +kernel
    simp [kd, PyData.canLay0, PyData.canLayAll0, kd_lay k, h]
  | .any n => by
    have h : PyData.strOk (Str.ofString "any") = true := by decide +kernel
    simp [kd, PyData.canLay0, PyData.canLayAll0, h]
def Kd.dp : Kd → Nat
  | .num => 0
  | .lst k => k.dp + 1
  | .any _ => 0
theorem kd_dep : ∀ k : Kd, (kd k).depth ≤ k.dp + 1
  | .num => by simp [kd, PyData.depth]
  | .lst k => by
    have := kd_dep k
    simp [kd, PyData.depth, PyData.depthAll, Kd.dp]
    omega
  | .any n => by simp [kd, PyData.depth, PyData.depthAll, Kd.dp]
theorem str_list_ne : (("list" : Str) == "any") = false := by decide
theorem str_any_ne : (("any" : Str) == "list") = false := by decide
theorem kd_eqv : ∀ j k : Kd, PyData.eqv (kd j) (kd k) = decide (j = k)
  | .num, .num => by simp [kd, PyData.eqv]
  | .num, .lst k => by simp [kd, PyData.eqv]
  | .num, .any n => by simp [kd, PyData.eqv]
  | .lst j, .num => by simp [kd, PyData.eqv]
  | .any n, .num => by simp [kd, PyData.eqv]
  | .lst j, .lst k => by
    have := kd_eqv j k
    simp [kd, PyData.eqv, PyData.eqvAll, this]
  | .lst j, .any n => by
    have := str_list_ne
    simp only [kd, PyData.eqv, PyData.eqvAll, this, Bool.false_and]
    simp
  | .any n, .lst k => by
    have := str_any_ne
    simp only [kd, PyData.eqv, PyData.eqvAll, this, Bool.false_and]
    simp
  | .any m, .any n => by
    simp [kd, PyData.eqv, PyData.eqvAll, Bool.beq_eq_decide_eq]
theorem pl_eqv (p q : Pl) : PyData.eqv (pl p) (pl q) = decide (p = q) := by
  obtain ⟨a, b⟩ := p
  obtain ⟨c, d⟩ := q
  simp [pl, PyData.eqv, PyData.eqvAll, Prod.ext_iff, Bool.beq_eq_decide_eq]
end Tp
set_option Elab.async false
set_option linter.all false
set_option maxRecDepth 100000
set_option maxHeartbeats 4000000
namespace Tp
open PySem PySem.Spec PyProof.Rows L2

/-! ### a, b, *rest = a tuple -/
section
variable {prog : Program} {w : World} {A : Around} {E : Value → Shared → Prop} {s : Shared} {env : Env}
theorem star_collect {I ax : Addr} {items : Array Value} {k : Nat} {St : Nat → Heap → Prop} {Q : List Value → Shared → Prop}
    (W : PySem.Walks prog w A.in1 I [I, ax] [I] items.size (fun i v => items[i]? = some v) St)
    (hT : ∀ i (u : Shared), St i u.heap → u.TypeIs (.ref I) "tuple_iterator") (hk : k ≤ items.size) (hst : St k s.heap) (hI : I < s.heap.objs.size) (hax : ax < s.heap.objs.size)
    (hQ : ∀ h' tk, (∀ b o, b ≠ I → s.heap.get? b = some o → h'.get? b = some o) → Q (items.toList.drop k) { s with heap := h', toks := tk }) (hsz : items.size ≤ sizeLine) : wpAny (model prog w) A (collect (.ref I)) Q E s := by
  refine wpAny_collect_iter (T := "tuple_iterator") (.inr (.inr (.inr rfl))) (PySem.W.kun_shift W hk).toS (fun i u st => hT (k + i) u st) (show St (k + 0) s.heap from hst) (fun b hb => ?_) (List.mem_cons_self ..) (fun s' acc hm ha => ?_) (by omega)
  · rcases List.mem_cons.mp hb with rfl | hb
    · exact hI
    · rw [List.mem_singleton.mp hb]; exact hax
  · obtain ⟨h', g', d', t', o'⟩ := s'
    obtain ⟨m1, m2, m3, m4, m5⟩ := hm
    have m2 : g' = s.gens := m2
    have m3 : d' = s.drawn := m3
    have m4 : o' = s.os := m4
    subst m2 m3 m4
    rw [PySem.W.kun_acc hk ha]
    exact hQ h' t' (fun b o hb e => m1 b o (by simpa using hb) e)
theorem star_items {l : Addr} {items : Array Value} {n i : Nat} {Q : List Value → Shared → Prop} (hl : IsTup s.heap l items) (hh : A.handled = none) (hi : i + 1 = n) (hn : n ≤ items.size + 1) (hz : items.size ≤ 16384)
    (h : ∀ (h' : Heap) (tk : Nat), (∀ b o, s.heap.get? b = some o → h'.get? b = some o) → Q (items.toList.take i ++ [.ref h'.objs.size]) { s with heap := h'.push { cls := .type "list", data := .seq (items.toList.drop i).toArray }, toks := tk }) : wpAny (model prog w) A (unpackItems (.ref l) n (some i)) Q E s := by
  have hlt : l ≠ s.heap.objs.size := by obtain ⟨o, ho, _⟩ := hl; exact Nat.ne_of_lt (Heap.lt_size ho)
  unfold unpackItems
  refine wpAny_bind ?_
  unfold notIterableAtAll
  refine wpAny_bind (wpAny_specialOf hl.typeIs slot_tuple_iter.lookup ?_)
  refine wpAny_pure ?_
  simp only [Bool.false_eq_true, if_false]
  refine wpAny_bind (wpAny_holding (iter_tuple hl ?_))
  refine wpAny_bind (wpAny_holding (draw_tuple hlt i 0 _ _ ⟨_, Heap.get?_push_size _ rfl, rfl, rfl⟩ (hl.push _) (by omega) fun h₁ hit₁ hs₁ => ?_))
  have hl₁ : IsTup h₁ l items := (hl.push _).extBut hs₁.extBut hlt
  rw [Nat.zero_add] at hit₁
  have hit₁' := hit₁
  obtain ⟨oi, hoi, _⟩ := hit₁'
  have hl₁' := hl₁
  obtain ⟨ol, hol, _⟩ := hl₁'
  rw [List.drop_zero]
  have hfl : (items.toList.take i).length = i := by rw [List.length_take, Array.length_toList]; omega
  rw [if_neg (show ¬ ((items.toList.take i).length < i) by rw [hfl]; omega)]
  refine wpAny_bind (wpAny_holding (star_collect (s := { s with heap := h₁ }) (Walks.tuple (A := A.in1) hh s.heap.objs.size l hlt items) (fun j u st => st.1.typeIs) (k := i) (by omega) ⟨hit₁, hl₁⟩ (Heap.lt_size hoi) (Heap.lt_size hol) (fun h₂ tk hk => ?_) (by rw [sizeLine_eq]; omega)))
  have hrl : (items.toList.drop i).length = items.size - i := by rw [List.length_drop, Array.length_toList]
  have hmid : (items.toList.drop i).length - (n - 1 - i) = items.size - i := by rw [hrl]; omega
  show wpAny _ _ (if (items.toList.drop i).length < n - 1 - i then _ else _) _ _ _
  rw [if_neg (by rw [hrl]; omega)]
  show wpAny _ _ (newList ((items.toList.drop i).take ((items.toList.drop i).length - (n - 1 - i))) >>= fun d => pure (items.toList.take i ++ [d] ++ (items.toList.drop i).drop ((items.toList.drop i).length - (n - 1 - i)))) _ _ _
  rw [hmid, show (items.toList.drop i).take (items.size - i) = items.toList.drop i from List.take_of_length_le (by rw [hrl]; exact Nat.le_refl _), show (items.toList.drop i).drop (items.size - i) = [] from List.drop_of_length_le (by rw [hrl]; exact Nat.le_refl _)]
  have he : ∀ b o, s.heap.get? b = some o → h₂.get? b = some o := fun b o e =>
    hk b o (Nat.ne_of_lt (Heap.lt_size e)) (hs₁.extBut b o (Nat.ne_of_lt (Heap.lt_size e)) (Heap.get?_push_of_some _ e))
  refine wpAny_bind (wpAny_newList (s := { s with heap := h₂, toks := tk }) (wpAny_pure ?_) ?_)
  · have q := h h₂ tk he
    rw [List.append_nil]
    exact q
  · rw [hrl, sizeLine_eq]
    omega
end
/-- (a, b, *r) = a tuple: the first n, the rest as a new list -/
def gStar (n : Nat) (t : TGs) : TG := fun v σ H Q => ∃ ds, TD H v (.tuple ds) ∧ n ≤ ds.length ∧ ds.length ≤ 1000 ∧ ∀ xs l ys H2, Kp [] H H2 → H l = none → H2 l = some (.lst ys) → TDs H2 xs (ds.take n) → TDs H2 ys (ds.drop n) → t (xs ++ [.ref l]) σ H2 Q
section
variable {X : Cx} {pos : Pos}
theorem pgs_star {e : Expr} {p : Pos} {t : TG} (h : PG X e t) (hs : (assignEach [.Starred e p] X.env).map (·.2) = [assign e X.env] := by rfl) : PGs X [.Starred e p] (gCons t gNil) := by
  refine ⟨fun pins s σ H vs us Q I r h1 => ?_⟩
  obtain ⟨v, vr, e1, h1⟩ := h1
  subst e1
  cases r with
  | cons r rr =>
    rw [hs]
    refine assignInOrder_cons (thn (h.run pins s σ H _ _ _ I r h1) fun _ s1 ⟨σ1, H1, I1, q1⟩ => ?_)
    obtain ⟨e2, q1⟩ := q1
    subst e2
    cases rr
    exact assignInOrder_nil ⟨σ1, H1, I1, q1⟩
theorem pg_star {es : List Expr} {k n : Nat} {t : TGs} (hc : X.calm = true) (h : PGs X es t)
    (hn : (assignEach es X.env).length = n + 1) (hst : (assignEach es X.env).findIdx? (·.1) = some n) : PG X (.Tuple es k pos) (gStar n t) := by
  refine ⟨fun pins s σ H v u Q I r hw => ?_⟩
  obtain ⟨ds, hd, hl, hz, q⟩ := hw
  obtain ⟨a, xs, e1, ha, ts⟩ := hd.inv
  subst e1
  cases r
  obtain ⟨its, rv, ht, hzz⟩ := I.tuple (SqT.of ha)
  have hlen : its.length = ds.length := by rw [← rv.length, ts.1]
  rw [PyProof.Rows.assign_Tuple]
  refine wpAny_bind (wpAny_standAt ?_)
  unfold unpack
  rw [hn, hst]
  refine wpAny_bind (wpAny_holding (star_items ht (I.ok.hd hc) rfl (by rw [List.size_toArray, hlen]; omega) (by rw [List.size_toArray, hlen]; omega) fun h' tk hk => ?_))
  have I0 : Inv X pins σ H { s with heap := h', toks := tk } := I.kept (t' := tk) hk
  have hnone : H h'.objs.size = none := I0.hok.fresh (Nat.le_refl _)
  have I1 : Inv X pins σ (upd H h'.objs.size (.lst (xs.drop n))) { s with heap := h'.push { cls := .type "list", data := .seq (its.drop n).toArray }, toks := tk } :=
    I0.laid (t' := tk) (fun b o e => Heap.get?_push_of_some _ e) (Nat.le_refl _) ⟨by rw [List.length_drop, ts.1]; exact Nat.le_trans (Nat.sub_le _ _) (Nat.le_of_lt (small1000 hz)), its.drop n, 0, rv.drop n, Heap.get?_push_size _ rfl⟩
  have vs : Vals (xs.take n ++ [V.ref h'.objs.size]) (its.toArray.toList.take n ++ [Value.ref h'.objs.size]) := by
    rw [List.toList_toArray]
    exact (rv.take n).append (.cons rfl .nil)
  exact h.run pins _ σ _ _ _ Q I1 vs (q (xs.take n) h'.objs.size (xs.drop n) _ (Kp.new hnone) hnone upd_same ((ts.take n).mono (Kp.new (M := []) hnone)) ((ts.drop n).mono (Kp.new (M := []) hnone)))
end
end Tp
set_option Elab.async false
set_option linter.all false
set_option maxRecDepth 100000
set_option maxHeartbeats 4000000
set_option pp.maxSteps 500
set_option pp.deepTerms false
namespace Tp
open PySem PySem.Spec PyProof.Rows L2
local macro_rules | `(tactic| walk_at "r") => `(tactic| with_reducible first
  | refine r_seq ?_ | refine r_set ?_ | refine r_ret ?_ | refine r_ifS ?_ | refine r_drop ?_ | refine r_next ?_ | refine r_nx ?_ | refine r_rt ?_
  | refine r_var rfl ?_ | refine r_c ?_ | refine r_op ?_ | refine r_test ?_ | refine r_B ?_ | refine r_exbl ?_ | refine r_exstr ?_ | refine r_exref ?_ | refine r_exint ?_ | refine r_ex2 ?_ | refine r_not ?_ | refine r_and ?_ | refine r_or ?_
  | refine r_andV ?_ | refine r_orV ?_ | refine r_notV ?_ | refine r_ifE ?_ | refine r_chain ?_ | refine r_asg ?_
  | refine r_cb ?_ | refine r_cons ?_ | refine r_nil ?_ | refine r_call ?_ | refine r_par ?_ | refine r_tup ?_ | refine r_lst ?_
  | refine r_lc ?_ | refine r_dget ?_ | refine r_din ?_ | refine r_dnotin ?_ | refine r_dput ?_ | refine r_sl ?_ | refine r_part ?_ | refine r_nopart ?_ | refine r_for ?_ | refine r_iList ?_ | refine r_iTup ?_ | refine r_iStr ?_ | refine r_iKeys ?_ | refine r_rng1 ?_ | refine r_dsetd ?_ | refine r_dnew ?_ | refine r_bm ?_ | refine r_fldaug ?_ | refine r_fldset ?_ | refine r_dz ?_ | refine r_lz ?_ | refine r_gSub ?_ | refine r_dc ?_ | refine r_sc ?_ | refine r_iEnumB ?_ | refine r_iZipB ?_ | refine r_iRevA ?_ | refine r_yes1 ?_ | refine r_gName ?_ | refine r_gCons ?_ | refine r_gNil ?_
  | refine r_I0 ?_ | refine r_eq_str ?_ | refine r_eq_int ?_ | refine r_ne_str ?_ | refine r_ne_int ?_
  | refine r_isi_int_int ?_ | refine r_isi_int_bool ?_ | refine r_isi_str_str ?_ | refine r_isi_int_tup ?_ | refine r_isi_str_tup ?_)
local macro_rules | `(tactic| walk_at "rr") => `(tactic| repeat walk_at "r")
local macro_rules | `(tactic| walk_at "len") => `(tactic| (intro vs H Q E h; repeat (first | (obtain ⟨e, _⟩ := h; rw [e]; rfl) | (obtain ⟨_, h⟩ := h))))
local macro_rules | `(tactic| walk_at "ni") => `(tactic| first | exact ni0 | exact ni1 (by assumption) | exact ni2 (by assumption) (by assumption) | exact ni3 (by assumption) (by assumption) (by assumption))
local macro_rules | `(tactic| walk_at "sub") => `(tactic| first | (intro b hb; cases hb; done) | (intro b hb; exact hb) | (intro b hb; simp at hb ⊢; simp [hb]; done) | (intro b hb; simp at hb ⊢; omega))
local macro_rules | `(tactic| walk_at "kp") => `(tactic| first | assumption | exact Kp.refl _ _ | (refine Kp.step (by assumption) (by walk_at "sub") ?_; walk_at "kp"))
local macro_rules | `(tactic| walk_at "at") => `(tactic| first | assumption | (refine Kp.atT (by assumption) ?_; walk_at "at") | (refine Kp.at (by assumption) ?_ (by walk_at "ni"); walk_at "at"))
local macro_rules | `(tactic| walk_at "td") => `(tactic| first | assumption | exact TD.int _ | exact TD.str _ | exact TDs.nil | (refine TDs.cons ?_ ?_ <;> walk_at "td") | (refine TD.mk (by assumption) ?_; walk_at "td") | (refine TD.mono (by assumption) ?_; walk_at "td") | (refine TDs.mono (by assumption) ?_; walk_at "td"))
local macro_rules | `(tactic| walk_at "b") => `(tactic| first | rfl | decide +kernel | (simp <;> omega) | (simp [*] <;> omega))
local macro_rules | `(tactic| walk_at "if") => `(tactic| first | refine r_yes (by walk_at "b") ?_ | refine r_no (by walk_at "b") ?_)
local macro_rules | `(tactic| walk_at "go") => `(tactic| repeat (first | walk_at "r" | walk_at "if"))
local macro_rules | `(tactic| walk_at "pf") => `(tactic| repeat (fail_if_success (with_reducible refine r_for ?_); walk_at "r"))
local macro_rules | `(tactic| walk_at "pt") => `(tactic| repeat (fail_if_success (with_reducible refine r_ifS ?_); walk_at "r"))
local macro_rules | `(tactic| walk_at "wn") => `(tactic| refine r_no (decide_eq_false (by simp only [Tree.word]; decide +kernel)) ?_)
local macro_rules | `(tactic| walk_at "nx") => `(tactic| (walk_at "wn"; walk_at "rr"))
section
variable {P : Program} {w : World} {K : PySem.W.Frag} {mg : Str → Option Value} {base : Heap}
def sp_is_within : Sp := fun vs H Q _ => ∃ i lo hi : Int, vs = [.int i, .int lo, .int hi] ∧ lo ≤ i ∧ i ≤ hi ∧ Q (.bl true) H
theorem sc_is_within : FnScope ["thing", "low", "high"] ["thing", "low", "high"] (defScope s_is_within) := ⟨rfl, rfl, rfl, by decide +kernel, rfl, by decide +kernel, by decide +kernel⟩
theorem c_is_within (T : Txt K mg) : Cal P w K mg base 1 "is_within" ["thing", "low", "high"] sp_is_within := by
  obtain ⟨fd, F⟩ := T.F_is_within
  refine mk_cal F T.g_is_within (fun _ _ _ _ _ _ us hl => match us, hl with | [_, _, _], _ => rfl) (mk_ok F sc_is_within (by walk_at "len") fun cdv A outer s H vs Q E hr h => ?_)
  obtain ⟨i, lo, hi, rfl, h1, h2, q⟩ := h
  refine ⟨_, (pss_one (ps_ret (pe_and (pe_callB call_isi (by rfl) T.b_isinstance (by decide +kernel) (pa_cons (pv 0) (pa_cons (pe_bltn (v := .ty "int") rfl T.b_int (by decide +kernel) rfl) pa_nil))) (pe_and (pe_not (pe_callB call_isi (by rfl) T.b_isinstance (by decide +kernel) (pa_cons (pv 0) (pa_cons (pe_bltn (v := .ty "bool") rfl T.b_bool (by decide +kernel) rfl) pa_nil)))) (pe_one (pe_chain op_le op_le (pv 1) (pv 0) (pv 2))))))), ?_⟩
  walk_at "go"
  rw [decide_eq_true h2]
  exact q
def sp_is_name : Sp := fun vs H Q _ => ∃ x : Str, vs = [.str x] ∧ okName x ∧ ∀ H', Kp [] H H' → Q (.bl true) H'
theorem sc_is_name : FnScope ["thing", "sign"] ["thing"] (defScope s_is_name) := ⟨rfl, rfl, rfl, by decide +kernel, rfl, by decide +kernel, by decide +kernel⟩
theorem c_is_name (T : Txt K mg) : Cal P w K mg base 1 "is_name" ["thing"] sp_is_name := by
  obtain ⟨fd, F⟩ := T.F_is_name
  obtain ⟨tLETTERS, gLETTERS⟩ := T.i_LETTERS
  refine mk_cal F T.g_is_name (fun _ _ _ _ _ _ us hl => match us, hl with | [_], _ => rfl) (mk_ok F sc_is_name (by walk_at "len") fun cdv A outer s H vs Q E hr h => ?_)
  obtain ⟨x, rfl, ⟨h1, h2, h3, h4⟩, q⟩ := h
  refine ⟨_, (pss_cons (ps_if (PW.pt (pw_or (pt_not (pt_val (pe_callB call_isi (by rfl) T.b_isinstance (by decide +kernel) (pa_cons (pv 0) (pa_cons (pe_bltn (v := .ty "str") rfl T.b_str (by decide +kernel) rfl) pa_nil))))) (pw_or (pt_not (pt_chain op_le op_le pe_int (pe_callB call_lenX (by rfl) T.b_len PySem.boot_len (pa_cons (pv 0) pa_nil)) pe_int)) (pw_or1 (pt_cmpR op_in_seq (pv 0) (pe_glob (v := .ref (He.ga K "KEYS")) rfl T.g_KEYS rfl) rfl))))) (pss_one (ps_ret pe_bl)) pss_nil) (pss_one (ps_ret (pe_callB (cr_all rfl) (by rfl) T.b_all (by decide +kernel) (pa_cons (pe_lc (own := [("sign", 1)]) (g := (gName 1)) (tt := tYes) rfl sc_is_name.nd (pi_str (pv 0)) (blkOk_by (own := [("sign", 1)]) (N := ["thing", "sign"]) (sc := defScope s_is_name) (by decide +kernel)) (fun _ _ _ _ _ => (pg_name (i := 1) sc_is_name.nd rfl (by first | exact Or.inl rfl | exact Or.inr rfl))) (fun _ _ _ _ _ => pts_nil) (fun _ _ _ _ _ => (pe_cmpR op_in_sign (pv 1) (pe_glob (v := .str "abcdefghijklmnopqrstuvwxyz") rfl gLETTERS ⟨_, rfl⟩) rfl))) pa_nil))))), ?_⟩
  walk_at "go"
  refine r_len_s (by omega) ?_
  walk_at "go"
  refine r_in_sq (T.keys _) ?_
  walk_at "go"
  refine lcAll walk_str (by show x.length ≤ _; omega) (fun _ _ => True.intro) ?_ ?_
  · rintro i y D acc H1 H2 hi hD hl k hd r ⟨rfl, c, hc, rfl⟩
    walk_at "go"
    refine ⟨rfl, ?_⟩
    walk_at "go"
    refine ⟨c, _, rfl, rfl, ?_⟩
    rw [decide_eq_true (h4 c (by rw [← Array.getElem?_toList] at hc; exact List.mem_of_getElem? hc))]
    exact lc_finT hD hi (by show x.length ≤ _; omega) hl k hd r
  · intro D acc H1 k hd r
    walk_at "go"
    exact r_all_true hd r (q _ k)
end
section
variable {P : Program} {w : World} {K : PySem.W.Frag} {mg : Str → Option Value} {base : Heap}
def sp_is_place : Sp := fun vs H Q _ => ∃ (v : V) (p : Pl), vs = [v] ∧ TD H v (pl p) ∧ okPl p ∧ ∀ H', Kp [] H H' → Q (.bl true) H'
theorem sc_is_place : FnScope ["thing", "one"] ["thing"] (defScope s_is_place) := ⟨rfl, rfl, rfl, by decide +kernel, rfl, by decide +kernel, by decide +kernel⟩
theorem c_is_place (T : Txt K mg) (C_is_within : Cal P w K mg base 1 "is_within" ["thing", "low", "high"] sp_is_within) : Cal P w K mg base 2 "is_place" ["thing"] sp_is_place := by
  obtain ⟨fd, F⟩ := T.F_is_place
  refine mk_cal F T.g_is_place (fun _ _ _ _ _ _ us hl => match us, hl with | [_], _ => rfl) (mk_ok F sc_is_place (by walk_at "len") fun cdv A outer s H vs Q E hr h => ?_)
  obtain ⟨v, p, rfl, hv, ⟨h1, h2, h3, h4⟩, q⟩ := h
  obtain ⟨a, xs, rfl, ha, ts⟩ := TD.inv (ds := [.int p.1, .int p.2]) hv
  obtain ⟨x1, r1, rfl, t1, ts1⟩ := ts.cons_inv
  obtain ⟨x2, r2, rfl, t2, ts2⟩ := ts1.cons_inv
  cases ts2.nil_inv
  cases t1.inv_int
  cases t2.inv_int
  refine ⟨_, (pss_one (ps_ret (pe_and (pe_callB call_isi (by rfl) T.b_isinstance (by decide +kernel) (pa_cons (pv 0) (pa_cons (pe_bltn (v := .ty "tuple") rfl T.b_tuple (by decide +kernel) rfl) pa_nil))) (pe_and (pe_cmpR (op_eqX hr) (pe_callB call_lenX (by rfl) T.b_len PySem.boot_len (pa_cons (pv 0) pa_nil)) pe_int (nomark _)) (pe_one (pe_callB (cr_all rfl) (by rfl) T.b_all (by decide +kernel) (pa_cons (pe_lc (own := [("one", 1)]) (g := (gName 1)) (tt := tYes) rfl sc_is_place.nd (pi_tup (pv 0)) (blkOk_by (own := [("one", 1)]) (N := ["thing", "one"]) (sc := defScope s_is_place) (by decide +kernel)) (fun _ _ _ _ _ => (pg_name (i := 1) sc_is_place.nd rfl (by first | exact Or.inl rfl | exact Or.inr rfl))) (fun _ _ _ _ _ => pts_nil) (fun _ _ _ _ _ => (pe_cal C_is_within hr (pa_cons (pv 1) (pa_cons pe_int (pa_cons pe_int pa_nil)))))) pa_nil))))))), ?_⟩
  walk_at "go"
  refine r_isi_tup (ds := [.int p.1, .int p.2]) hv ?_
  walk_at "go"
  refine r_len_td (ds := [.int p.1, .int p.2]) hv ?_
  walk_at "go"
  refine ⟨⟨_, SqT.of ha⟩, ?_⟩
  refine lcAll walk_tup (by show 2 ≤ _; decide) (fun H1 k => SqT.of (k.atT ha)) ?_ ?_
  · rintro i y D acc H1 H2 hi hD hl k hd r ⟨rfl, hy⟩
    walk_at "go"
    refine ⟨rfl, ?_⟩
    walk_at "go"
    have fin : ∃ n, y = .int n ∧ 0 ≤ n ∧ n ≤ 9999 := by
      match i, hy with
      | 0, hy => exact ⟨p.1, (Option.some.inj hy).symm, h1, h2⟩
      | 1, hy => exact ⟨p.2, (Option.some.inj hy).symm, h3, h4⟩
    obtain ⟨n, rfl, hn1, hn2⟩ := fin
    exact ⟨n, 0, 9999, rfl, hn1, hn2, lc_finT hD hi (by show 2 ≤ _; decide) hl k hd r⟩
  · intro D acc H1 k hd r
    walk_at "go"
    exact r_all_true hd r (q _ k)

def sp_subtrees : Sp := fun vs H Q _ => ∃ (v : V) (t : Tree), vs = [v] ∧ TD H v (tr t) ∧ ∀ l ys H', Kp [] H H' → H l = none → H' l = some (.lst ys) → TDs H' ys (t.subs.map tr) → Q (.ref l) H'
theorem sc_subtrees : FnScope ["tree", "word"] ["tree"] (defScope s_subtrees) := ⟨rfl, rfl, rfl, by decide +kernel, rfl, by decide +kernel, by decide +kernel⟩
theorem c_subtrees (T : Txt K mg) : Cal P w K mg base 1 "subtrees" ["tree"] sp_subtrees := by
  obtain ⟨fd, F⟩ := T.F_subtrees
  refine mk_cal F T.g_subtrees (fun _ _ _ _ _ _ us hl => match us, hl with | [_], _ => rfl) (mk_ok F sc_subtrees (by walk_at "len") fun cdv A outer s H vs Q E hr h => ?_)
  obtain ⟨v, t, rfl, hv, q⟩ := h
  refine ⟨_, (pss_cons (ps_set (i := 1) sc_subtrees.nd rfl (by first | exact Or.inl rfl | exact Or.inr rfl) (pe_ix ix_seq (pv 0) pe_int (fun _ _ => rfl))) (pss_cons (ps_if (pt_cmpR (op_eqX hr) (pv 1) pe_str (nomark _)) (pss_one (ps_ret (pe_callTy call_listK (by rfl) T.b_list (by decide +kernel) (pa_cons (pe_ix ix_seq (pv 0) pe_int (fun _ _ => rfl)) pa_nil)))) pss_nil) (pss_cons (ps_if (pt_cmpR op_in_seq (pv 1) (pe_tupK (pa_cons pe_str (pa_cons pe_str pa_nil))) rfl) (pss_one (ps_ret (pe_callTy call_listK (by rfl) T.b_list (by decide +kernel) (pa_cons (pe_slice sl_tupK (pv 0) (po_some pe_int) (po_some pe_int)) pa_nil)))) pss_nil) (pss_cons (ps_if (pt_cmpR (op_eqX hr) (pv 1) pe_str (nomark _)) (pss_one (ps_ret (pe_callTy call_listK (by rfl) T.b_list (by decide +kernel) (pa_cons (pe_slice sl_tupK (pv 0) (po_some pe_int) (po_some pe_int)) pa_nil)))) pss_nil) (pss_cons (ps_if (pt_cmpR (op_eqX hr) (pv 1) pe_str (nomark _)) (pss_one (ps_ret (pe_lstK (pa_cons (pe_ix ix_seq (pv 0) pe_int (fun _ _ => rfl)) (pa_cons (pe_ix ix_seq (pv 0) pe_int (fun _ _ => rfl)) (pa_cons (pe_ix ix_seq (pv 0) pe_int (fun _ _ => rfl)) pa_nil)))))) pss_nil) (pss_one (ps_ret (pe_lstK pa_nil)))))))), ?_⟩
  cases t with
  | num p n =>
    simp only [tr_num] at hv
    walk_at "go"
    refine r_ix_str hv 0 rfl ?_
    walk_at "go"
    refine ⟨by simp, fun p1 H1 k1 n1 e1 => ?_⟩
    walk_at "go"
    refine r_in_td (ns := ["op", "let"]) (by walk_at "td") ?_
    walk_at "go"
    exact ⟨by simp, fun l H2 k2 n2 e2 => q l [] H2 (by walk_at "kp") (k1.free n2) e2 TDs.nil⟩
  | nil p =>
    simp only [tr_nil] at hv
    walk_at "go"
    refine r_ix_str hv 0 rfl ?_
    walk_at "go"
    refine ⟨by simp, fun p1 H1 k1 n1 e1 => ?_⟩
    walk_at "go"
    refine r_in_td (ns := ["op", "let"]) (by walk_at "td") ?_
    walk_at "go"
    exact ⟨by simp, fun l H2 k2 n2 e2 => q l [] H2 (by walk_at "kp") (k1.free n2) e2 TDs.nil⟩
  | use p x as =>
    simp only [tr_use] at hv
    walk_at "go"
    refine r_ix_str hv 0 rfl ?_
    walk_at "go"
    refine r_ix hv 3 rfl fun y hy => ?_
    walk_at "go"
    exact r_list_td hy fun l ys H2 k2 n2 e2 t2 => q l ys H2 k2 n2 e2 t2
  | op p z l r =>
    simp only [tr_op] at hv
    walk_at "go"
    refine r_ix_str hv 0 rfl ?_
    walk_at "go"
    refine ⟨by simp, fun p1 H1 k1 n1 e1 => ?_⟩
    walk_at "go"
    refine r_in_td (ns := ["op", "let"]) (by walk_at "td") ?_
    walk_at "go"
    refine ⟨_, hv.mono k1, fun y H2 k2 hy => ?_⟩
    walk_at "go"
    exact r_list_td hy fun l ys H3 k3 n3 e3 t3 => q l ys H3 (by walk_at "kp") (k1.free (k2.free n3)) e3 t3
  | ite p a b c =>
    simp only [tr_ite] at hv
    walk_at "go"
    refine r_ix_str hv 0 rfl ?_
    walk_at "go"
    refine ⟨by simp, fun p1 H1 k1 n1 e1 => ?_⟩
    walk_at "go"
    refine r_in_td (ns := ["op", "let"]) (by walk_at "td") ?_
    walk_at "go"
    refine ⟨_, hv.mono k1, fun y H2 k2 hy => ?_⟩
    walk_at "go"
    exact r_list_td hy fun l ys H3 k3 n3 e3 t3 => q l ys H3 (by walk_at "kp") (k1.free (k2.free n3)) e3 t3
  | lt p x a b =>
    simp only [tr_lt] at hv
    walk_at "go"
    refine r_ix_str hv 0 rfl ?_
    walk_at "go"
    refine ⟨by simp, fun p1 H1 k1 n1 e1 => ?_⟩
    walk_at "go"
    refine r_in_td (ns := ["op", "let"]) (by walk_at "td") ?_
    walk_at "go"
    refine ⟨_, hv.mono k1, fun y H2 k2 hy => ?_⟩
    walk_at "go"
    exact r_list_td hy fun l ys H3 k3 n3 e3 t3 => q l ys H3 (by walk_at "kp") (k1.free (k2.free n3)) e3 t3
  | cs p a e x y b =>
    simp only [tr_cs] at hv
    walk_at "go"
    refine r_ix_str hv 0 rfl ?_
    walk_at "go"
    refine ⟨by simp, fun p1 H1 k1 n1 e1 => ?_⟩
    walk_at "go"
    refine r_in_td (ns := ["op", "let"]) (by walk_at "td") ?_
    walk_at "go"
    refine r_ix (hv.mono k1) 2 rfl fun v1 h1 => ?_
    walk_at "go"
    refine r_ix (hv.mono k1) 3 rfl fun v2 h2 => ?_
    walk_at "go"
    refine r_ix (hv.mono k1) 6 rfl fun v3 h3 => ?_
    walk_at "go"
    exact ⟨by simp, fun l H2 k2 n2 e2 => q l _ H2 (by walk_at "kp") (k1.free n2) e2 (by show TDs H2 _ [tr a, tr e, tr b]; walk_at "td")⟩
end
section
variable {P : Program} {w : World} {K : PySem.W.Frag} {mg : Str → Option Value} {base : Heap}
def sp_is_node : Sp := fun vs H Q _ => ∃ (v : V) (t : Tree), vs = [v] ∧ TD H v (tr t) ∧ okN t ∧ ∀ H', Kp [] H H' → Q (.bl true) H'
theorem sc_is_node : FnScope ["thing", "word", "place", "rest"] ["thing"] (defScope s_is_node) := ⟨rfl, rfl, rfl, by decide +kernel, rfl, by decide +kernel, by decide +kernel⟩
theorem c_is_node (T : Txt K mg) (C_is_within : Cal P w K mg base 1 "is_within" ["thing", "low", "high"] sp_is_within) (C_is_name : Cal P w K mg base 1 "is_name" ["thing"] sp_is_name) (C_is_place : Cal P w K mg base 2 "is_place" ["thing"] sp_is_place) : Cal P w K mg base 3 "is_node" ["thing"] sp_is_node := by
  obtain ⟨fd, F⟩ := T.F_is_node
  obtain ⟨tMOST_NUMBER, gMOST_NUMBER⟩ := T.i_MOST_NUMBER
  obtain ⟨tMOST_PARTS, gMOST_PARTS⟩ := T.i_MOST_PARTS
  refine mk_cal F T.g_is_node (fun _ _ _ _ _ _ us hl => match us, hl with | [_], _ => rfl) (mk_ok F sc_is_node (by walk_at "len") fun cdv A outer s H vs Q E hr h => ?_)
  obtain ⟨v, t, rfl, hv, ok, q⟩ := h
  refine ⟨_, (pss_cons (ps_if (PW.pt (pw_or (pt_not (pt_val (pe_callB call_isi (by rfl) T.b_isinstance (by decide +kernel) (pa_cons (pv 0) (pa_cons (pe_bltn (v := .ty "tuple") rfl T.b_tuple (by decide +kernel) rfl) pa_nil))))) (pw_or (pt_cmpR op_lt (pe_callB call_lenX (by rfl) T.b_len PySem.boot_len (pa_cons (pv 0) pa_nil)) pe_int (nomark _)) (pw_or (pt_not (pt_val (pe_callB call_isi (by rfl) T.b_isinstance (by decide +kernel) (pa_cons (pe_ix ix_seq (pv 0) pe_int (fun _ _ => rfl)) (pa_cons (pe_bltn (v := .ty "str") rfl T.b_str (by decide +kernel) rfl) pa_nil))))) (pw_or1 (pt_not (pt_val (pe_cal C_is_place hr (pa_cons (pe_ix ix_seq (pv 0) pe_int (fun _ _ => rfl)) pa_nil))))))))) (pss_one (ps_ret pe_bl)) pss_nil) (pss_cons (ps_asg (pv 0) (pg_star (n := 2) rfl (pgs_cons (pg_name (i := 1) sc_is_node.nd rfl (by first | exact Or.inl rfl | exact Or.inr rfl)) (pgs_cons (pg_name (i := 2) sc_is_node.nd rfl (by first | exact Or.inl rfl | exact Or.inr rfl)) (pgs_star (pg_name (i := 3) sc_is_node.nd rfl (by first | exact Or.inl rfl | exact Or.inr rfl))))) rfl rfl)) (pss_cons (ps_if (pt_cmpR (op_eqX hr) (pv 1) pe_str (nomark _)) (pss_one (ps_ret (pe_and (pe_cmpR (op_eqX hr) (pe_callB call_lenX (by rfl) T.b_len PySem.boot_len (pa_cons (pv 3) pa_nil)) pe_int (nomark _)) (pe_one (pe_cal C_is_within hr (pa_cons (pe_ix ix_seq (pv 3) pe_int (fun _ _ => rfl)) (pa_cons pe_int (pa_cons (pe_glob (v := .int 999999999) rfl gMOST_NUMBER ⟨_, rfl⟩) pa_nil)))))))) pss_nil) (pss_cons (ps_if (pt_cmpR (op_eqX hr) (pv 1) pe_str (nomark _)) (pss_one (ps_ret (pe_and (pe_cmpR (op_eqX hr) (pe_callB call_lenX (by rfl) T.b_len PySem.boot_len (pa_cons (pv 3) pa_nil)) pe_int (nomark _)) (pe_and (pe_cal C_is_name hr (pa_cons (pe_ix ix_seq (pv 3) pe_int (fun _ _ => rfl)) pa_nil)) (pe_and (pe_callB call_isi (by rfl) T.b_isinstance (by decide +kernel) (pa_cons (pe_ix ix_seq (pv 3) pe_int (fun _ _ => rfl)) (pa_cons (pe_bltn (v := .ty "tuple") rfl T.b_tuple (by decide +kernel) rfl) pa_nil))) (pe_one (pe_cmpR op_le (pe_callB call_lenX (by rfl) T.b_len PySem.boot_len (pa_cons (pe_ix ix_seq (pv 3) pe_int (fun _ _ => rfl)) pa_nil)) (pe_glob (v := .int 4) rfl gMOST_PARTS ⟨_, rfl⟩) (nomark _)))))))) pss_nil) (pss_cons (ps_if (pt_cmpR (op_eqX hr) (pv 1) pe_str (nomark _)) (pss_one (ps_ret (pe_and (pe_cmpR (op_eqX hr) (pe_callB call_lenX (by rfl) T.b_len PySem.boot_len (pa_cons (pv 3) pa_nil)) pe_int (nomark _)) (pe_and (pe_callB call_isi (by rfl) T.b_isinstance (by decide +kernel) (pa_cons (pe_ix ix_seq (pv 3) pe_int (fun _ _ => rfl)) (pa_cons (pe_bltn (v := .ty "str") rfl T.b_str (by decide +kernel) rfl) pa_nil))) (pe_one (pe_cmpR op_in_seq (pe_ix ix_seq (pv 3) pe_int (fun _ _ => rfl)) (pe_glob (v := .ref (He.ga K "OPS")) rfl T.g_OPS rfl) rfl)))))) pss_nil) (pss_cons (ps_if (pt_cmpR (op_eqX hr) (pv 1) pe_str (nomark _)) (pss_one (ps_ret (pe_and (pe_cmpR (op_eqX hr) (pe_callB call_lenX (by rfl) T.b_len PySem.boot_len (pa_cons (pv 3) pa_nil)) pe_int (nomark _)) (pe_one (pe_cal C_is_name hr (pa_cons (pe_ix ix_seq (pv 3) pe_int (fun _ _ => rfl)) pa_nil)))))) pss_nil) (pss_cons (ps_if (pt_cmpR (op_eqX hr) (pv 1) pe_str (nomark _)) (pss_one (ps_ret (pe_and (pe_cmpR (op_eqX hr) (pe_callB call_lenX (by rfl) T.b_len PySem.boot_len (pa_cons (pv 3) pa_nil)) pe_int (nomark _)) (pe_and (pe_cal C_is_name hr (pa_cons (pe_ix ix_seq (pv 3) pe_int (fun _ _ => rfl)) pa_nil)) (pe_one (pe_cal C_is_name hr (pa_cons (pe_ix ix_seq (pv 3) pe_int (fun _ _ => rfl)) pa_nil))))))) pss_nil) (pss_one (ps_ret (pe_or (pe_and (pe_cmpR (op_eqX hr) (pv 1) pe_str (nomark _)) (pe_one (pe_cmpR (op_eqX hr) (pv 3) (pe_lstK pa_nil) (nomark _)))) (pe_one (pe_and (pe_cmpR (op_eqX hr) (pv 1) pe_str (nomark _)) (pe_one (pe_cmpR (op_eqX hr) (pe_callB call_lenX (by rfl) T.b_len PySem.boot_len (pa_cons (pv 3) pa_nil)) pe_int (nomark _))))))))))))))), ?_⟩
  rw [tr_eq] at hv
  walk_at "go"
  refine r_isi_tup hv ?_
  walk_at "go"
  refine r_len_td hv ?_
  walk_at "go"
  refine r_ix_str hv 0 rfl ?_
  walk_at "go"
  refine r_ix hv 1 rfl fun v1 h1 => ?_
  walk_at "go"
  refine ⟨_, _, rfl, h1, ok.pl, fun H1 k1 => ?_⟩
  walk_at "go"
  refine ⟨_, hv.mono k1, by simp, by cases t <;> simp [Tree.more] , fun xs l ys H2 k2 n2 e2 t1 t2 => ?_⟩
  obtain ⟨x1, r1, rfl, s1, t1⟩ := TDs.cons_inv (d := .str t.word) (ds := [pl t.place]) t1
  obtain ⟨x2, r2, rfl, s2, t1⟩ := TDs.cons_inv t1
  cases t1.nil_inv
  have t2 : TDs H2 ys t.more := t2
  have k3 : Kp [] H H2 := k1.trans k2
  change gCons _ _ [_, _, _] _ _ _
  cases t with
  | num p n =>
    cases (show TD H2 x1 (.str "num") from s1).inv_str
    obtain ⟨y1, r3, rfl, u1, t2⟩ := TDs.cons_inv (d := .int n) (ds := []) t2
    cases t2.nil_inv
    cases u1.inv_int
    walk_at "go"
    refine r_len_l e2 ?_
    walk_at "go"
    refine r_ixL e2 0 rfl ?_
    walk_at "go"
    exact ⟨_, _, _, rfl, ok.2.1, ok.2.2, q _ k3⟩
  | nil p =>
    cases (show TD H2 x1 (.str "nil") from s1).inv_str
    cases t2.nil_inv
    walk_at "go"
    refine ⟨by simp, fun l2 H3 k4 n4 e4 => ?_⟩
    have e5 := k4.at e2 ni0
    refine .inr ⟨.list [], .list [], .lst (SqL.of e5) .nil, .lst (SqL.of e4) .nil, by simp [PyData.canLay0, PyData.canLayAll0], by simp [PyData.canLay0, PyData.canLayAll0], by simp [PyData.depth, PyData.depthAll], ?_⟩
    rw [if_neg Bool.false_ne_true]
    have e : PyData.eqv (.list []) (.list []) = true := by simp [PyData.eqv, PyData.eqvAll]
    rw [e]
    walk_at "go"
    exact q _ (k3.trans k4)
  | use p x as =>
    cases (show TD H2 x1 (.str "use") from s1).inv_str
    obtain ⟨y1, r3, rfl, u1, t2⟩ := TDs.cons_inv (d := .str x) (ds := [.tuple (as.map tr)]) t2
    obtain ⟨y2, r4, rfl, u2, t2⟩ := TDs.cons_inv t2
    cases t2.nil_inv
    cases u1.inv_str
    walk_at "go"
    refine r_len_l e2 ?_
    walk_at "go"
    refine r_ixL e2 0 rfl ?_
    walk_at "go"
    refine ⟨_, rfl, ok.2.1, fun H3 k4 => ?_⟩
    walk_at "go"
    have e5 := k4.at e2 ni0
    have u3 := u2.mono k4
    refine r_ixL e5 1 rfl ?_
    walk_at "go"
    refine r_isi_tup u3 ?_
    walk_at "go"
    refine r_ixL e5 1 rfl ?_
    walk_at "go"
    refine r_len_td u3 ?_
    walk_at "go"
    have e : decide ((((as.map tr).length : Nat) : Int) ≤ 4) = true := by
      have := ok.2.2
      simp
      omega
    rw [e]
    exact q _ (k3.trans k4)
  | op p z l1 r1 =>
    cases (show TD H2 x1 (.str "op") from s1).inv_str
    obtain ⟨y1, r3, rfl, u1, t2⟩ := TDs.cons_inv (d := .str z) (ds := [tr l1, tr r1]) t2
    obtain ⟨y2, r4, rfl, u2, t2⟩ := TDs.cons_inv t2
    obtain ⟨y3, r5, rfl, u3, t2⟩ := TDs.cons_inv t2
    cases t2.nil_inv
    cases u1.inv_str
    walk_at "go"
    refine r_len_l e2 ?_
    walk_at "go"
    refine r_ixL e2 0 rfl ?_
    walk_at "go"
    refine r_ixL e2 0 rfl ?_
    walk_at "go"
    refine r_in_sq (T.ops _) ?_
    walk_at "go"
    rw [decide_eq_true ok.2]
    exact q _ k3
  | ite p a b c =>
    cases (show TD H2 x1 (.str "if") from s1).inv_str
    obtain ⟨y1, r3, rfl, u1, t2⟩ := TDs.cons_inv (d := tr a) (ds := [tr b, tr c]) t2
    obtain ⟨y2, r4, rfl, u2, t2⟩ := TDs.cons_inv t2
    obtain ⟨y3, r5, rfl, u3, t2⟩ := TDs.cons_inv t2
    cases t2.nil_inv
    walk_at "go"
    refine r_len_l e2 ?_
    walk_at "go"
    exact q _ k3
  | lt p x a b =>
    cases (show TD H2 x1 (.str "let") from s1).inv_str
    obtain ⟨y1, r3, rfl, u1, t2⟩ := TDs.cons_inv (d := .str x) (ds := [tr a, tr b]) t2
    obtain ⟨y2, r4, rfl, u2, t2⟩ := TDs.cons_inv t2
    obtain ⟨y3, r5, rfl, u3, t2⟩ := TDs.cons_inv t2
    cases t2.nil_inv
    cases u1.inv_str
    walk_at "go"
    refine r_len_l e2 ?_
    walk_at "go"
    refine r_ixL e2 0 rfl ?_
    walk_at "go"
    exact ⟨_, rfl, ok.2, fun H3 k4 => q _ (k3.trans k4)⟩
  | cs p a b x y c =>
    cases (show TD H2 x1 (.str "case") from s1).inv_str
    obtain ⟨y1, r3, rfl, u1, t2⟩ := TDs.cons_inv (d := tr a) (ds := [tr b, .str x, .str y, tr c]) t2
    obtain ⟨y2, r4, rfl, u2, t2⟩ := TDs.cons_inv t2
    obtain ⟨y3, r5, rfl, u3, t2⟩ := TDs.cons_inv t2
    obtain ⟨y4, r6, rfl, u4, t2⟩ := TDs.cons_inv t2
    obtain ⟨y5, r7, rfl, u5, t2⟩ := TDs.cons_inv t2
    cases t2.nil_inv
    cases u3.inv_str
    cases u4.inv_str
    walk_at "go"
    refine r_len_l e2 ?_
    walk_at "go"
    refine r_ixL e2 2 rfl ?_
    walk_at "go"
    refine ⟨_, rfl, ok.2.1, fun H3 k4 => ?_⟩
    walk_at "go"
    have e5 := k4.at e2 ni0
    refine r_ixL e5 3 rfl ?_
    walk_at "go"
    exact ⟨_, rfl, ok.2.2, fun H4 k5 => q _ ((k3.trans k4).trans k5)⟩
end
section
variable {P : Program} {w : World} {K : PySem.W.Frag} {mg : Str → Option Value} {base : Heap}
theorem TDs.map_get {H : Hp} {ys : List V} {α : Type} {f : α → PyData} {l : List α} (t : TDs H ys (l.map f)) {i : Nat} {y : V} (h : ys[i]? = some y) : ∃ s, s ∈ l ∧ l[i]? = some s ∧ TD H y (f s) := by
  obtain ⟨e, he, hd⟩ := t.get' h
  rw [List.getElem?_map] at he
  cases q : l[i]? with
  | none =>
    rw [q] at he
    cases he
  | some s =>
    rw [q] at he
    cases he
    exact ⟨s, List.mem_of_getElem? q, rfl, hd⟩
theorem subs_few {t : Tree} (h : okN t) : t.subs.length ≤ 4 := by
  cases t <;> simp [Tree.subs]
  exact h.2.2
def sp_is_tree (n : Nat) : Sp := fun vs H Q _ => ∃ (v : V) (t : Tree), vs = [v, .int n] ∧ TD H v (tr t) ∧ Dep n t ∧ AllT okN t ∧ ∀ H', Kp [] H H' → Q (.bl true) H'
theorem sc_is_tree : FnScope ["thing", "deep", "one"] ["thing", "deep"] (defScope s_is_tree) := ⟨rfl, rfl, rfl, by decide +kernel, rfl, by decide +kernel, by decide +kernel⟩
theorem c_is_tree0 (T : Txt K mg) : Cal P w K mg base 4 "is_tree" ["thing", "deep"] (sp_is_tree 0) := by
  obtain ⟨fd, F⟩ := T.F_is_tree
  have no : ∀ vs H Q E, ¬ sp_is_tree 0 vs H Q E := fun vs H Q E h => by
    obtain ⟨v, t, _, _, d, _⟩ := h
    cases d
  exact mk_cal F T.g_is_tree (fun _ _ _ _ _ _ us hl => match us, hl with | [_, _], _ => rfl) ⟨fun vs H Q E h => absurd h (no vs H Q E), fun A outer s H args us vs Q E _ _ _ _ h => absurd h (no vs H Q E)⟩
theorem c_is_tree1 {n : Nat} (T : Txt K mg) (C_is_node : Cal P w K mg base 3 "is_node" ["thing"] sp_is_node) (C_subtrees : Cal P w K mg base 1 "subtrees" ["tree"] sp_subtrees) (C_is_tree : Cal P w K mg base (n + 4) "is_tree" ["thing", "deep"] (sp_is_tree n)) : Cal P w K mg base (n + 5) "is_tree" ["thing", "deep"] (sp_is_tree (n + 1)) := by
  obtain ⟨fd, F⟩ := T.F_is_tree
  refine mk_cal F T.g_is_tree (fun _ _ _ _ _ _ us hl => match us, hl with | [_, _], _ => rfl) (mk_ok F sc_is_tree (by walk_at "len") fun cdv A outer s H vs Q E hr h => ?_)
  obtain ⟨v, t, rfl, hv, hd, ok, q⟩ := h
  refine ⟨_, (pss_one (ps_ret (pe_and (pe_cmpR op_gt (pv 1) pe_int (nomark _)) (pe_and (pe_cal C_is_node hr (pa_cons (pv 0) pa_nil)) (pe_one (pe_callB (cr_all rfl) (by rfl) T.b_all (by decide +kernel) (pa_cons (pe_lc (own := [("one", 2)]) (g := (gName 2)) (tt := tYes) rfl sc_is_tree.nd (pi_list (pe_cal C_subtrees hr (pa_cons (pv 0) pa_nil))) (blkOk_by (own := [("one", 2)]) (N := ["thing", "deep", "one"]) (sc := defScope s_is_tree) (by decide +kernel)) (fun _ _ _ _ _ => (pg_name (i := 2) sc_is_tree.nd rfl (by first | exact Or.inl rfl | exact Or.inr rfl))) (fun _ _ _ _ _ => pts_nil) (fun _ _ _ _ _ => (pe_cal C_is_tree hr (pa_cons (pv 2) (pa_cons (pe_op op_sub (pv 1) pe_int) pa_nil))))) pa_nil))))))), ?_⟩
  walk_at "go"
  refine ⟨v, t, rfl, hv, ok.here, fun H1 k1 => ?_⟩
  walk_at "go"
  refine ⟨v, t, rfl, hv.mono k1, fun l ys H2 k2 n2 e2 t2 => ?_⟩
  walk_at "go"
  refine ⟨⟨_, SqL.of e2⟩, ?_⟩
  have few : ys.length ≤ 4 := by
    rw [t2.1, List.length_map]
    exact subs_few ok.here
  refine lcAll walk_list (by omega) (fun H3 k => SqL.of (k.at e2 ni0)) ?_ ?_
  · rintro i y D acc H3 H4 hi hD hl k hdd r ⟨rfl, hy⟩
    walk_at "go"
    refine ⟨rfl, ?_⟩
    walk_at "go"
    obtain ⟨s, hs, _, hts⟩ := t2.map_get hy
    refine ⟨y, s, ?_, hts.mono k, hd.sub hs, ok.sub hs, fun H5 k5 => lc_finT hD hi (by omega) hl (k.trans k5) (k5.at hdd ni0) r⟩
    have e : ((n + 1 : Nat) : Int) - 1 = (n : Int) := by omega
    rw [e]
  · intro D acc H3 k hdd r
    walk_at "go"
    exact r_all_true hdd r (q _ (by walk_at "kp"))
theorem c_is_tree (T : Txt K mg) (C_is_node : Cal P w K mg base 3 "is_node" ["thing"] sp_is_node) (C_subtrees : Cal P w K mg base 1 "subtrees" ["tree"] sp_subtrees) : ∀ n : Nat, Cal P w K mg base (n + 4) "is_tree" ["thing", "deep"] (sp_is_tree n)
  | 0 => c_is_tree0 T
  | n + 1 => c_is_tree1 T C_is_node C_subtrees (c_is_tree T C_is_node C_subtrees n)

def sp_is_def : Sp := fun vs H Q _ => ∃ (v : V) (d : Df), vs = [v] ∧ TD H v (df d) ∧ okDf d ∧ ∀ H', Kp [] H H' → Q (.bl true) H'
theorem sc_is_def : FnScope ["thing", "word", "place", "name", "params", "body", "param"] ["thing"] (defScope s_is_def) := ⟨rfl, rfl, rfl, by decide +kernel, rfl, by decide +kernel, by decide +kernel⟩
theorem c_is_def (T : Txt K mg) (C_is_place : Cal P w K mg base 2 "is_place" ["thing"] sp_is_place) (C_is_name : Cal P w K mg base 1 "is_name" ["thing"] sp_is_name) (C_is_tree : Cal P w K mg base 14 "is_tree" ["thing", "deep"] (sp_is_tree 10)) : Cal P w K mg base 15 "is_def" ["thing"] sp_is_def := by
  obtain ⟨fd, F⟩ := T.F_is_def
  obtain ⟨tDEEP, gDEEP⟩ := T.i_DEEP
  obtain ⟨tMOST_PARTS, gMOST_PARTS⟩ := T.i_MOST_PARTS
  refine mk_cal F T.g_is_def (fun _ _ _ _ _ _ us hl => match us, hl with | [_], _ => rfl) (mk_ok F sc_is_def (by walk_at "len") fun cdv A outer s H vs Q E hr h => ?_)
  obtain ⟨v, d, rfl, hv, ok, q⟩ := h
  obtain ⟨a, xs, rfl, ha, ts⟩ := TD.inv (ds := [.str "def", pl d.p, .str d.name, .tuple (d.params.map PyData.str), tr d.body]) hv
  have hv : TD H (.ref a) (.tuple [.str "def", pl d.p, .str d.name, .tuple (d.params.map PyData.str), tr d.body]) := hv
  obtain ⟨x1, r1, rfl, t1, ts⟩ := ts.cons_inv
  obtain ⟨x2, r2, rfl, t2, ts⟩ := ts.cons_inv
  obtain ⟨x3, r3, rfl, t3, ts⟩ := ts.cons_inv
  obtain ⟨x4, r4, rfl, t4, ts⟩ := ts.cons_inv
  obtain ⟨x5, r5, rfl, t5, ts⟩ := ts.cons_inv
  cases ts.nil_inv
  cases t1.inv_str
  cases t3.inv_str
  obtain ⟨a4, xs4, rfl, ha4, ts4⟩ := t4.inv
  cases ts4.strs_inv
  refine ⟨_, (pss_cons (ps_if (PW.pt (pw_or (pt_not (pt_val (pe_callB call_isi (by rfl) T.b_isinstance (by decide +kernel) (pa_cons (pv 0) (pa_cons (pe_bltn (v := .ty "tuple") rfl T.b_tuple (by decide +kernel) rfl) pa_nil))))) (pw_or (pt_cmpR (op_neX hr) (pe_callB call_lenX (by rfl) T.b_len PySem.boot_len (pa_cons (pv 0) pa_nil)) pe_int (nomark _)) (pw_or1 (pt_cmpR (op_neX hr) (pe_ix ix_seq (pv 0) pe_int (fun _ _ => rfl)) pe_str (nomark _)))))) (pss_one (ps_ret pe_bl)) pss_nil) (pss_cons (ps_asg (pv 0) (pg_tup rfl (pgs_cons (pg_name (i := 1) sc_is_def.nd rfl (by first | exact Or.inl rfl | exact Or.inr rfl)) (pgs_cons (pg_name (i := 2) sc_is_def.nd rfl (by first | exact Or.inl rfl | exact Or.inr rfl)) (pgs_cons (pg_name (i := 3) sc_is_def.nd rfl (by first | exact Or.inl rfl | exact Or.inr rfl)) (pgs_cons (pg_name (i := 4) sc_is_def.nd rfl (by first | exact Or.inl rfl | exact Or.inr rfl)) (pgs_cons (pg_name (i := 5) sc_is_def.nd rfl (by first | exact Or.inl rfl | exact Or.inr rfl)) pgs_nil))))))) (pss_cons (ps_if (PW.pt (pw_or (pt_not (pt_val (pe_cal C_is_place hr (pa_cons (pv 2) pa_nil)))) (pw_or (pt_not (pt_val (pe_cal C_is_name hr (pa_cons (pv 3) pa_nil)))) (pw_or (pt_not (pt_val (pe_callB call_isi (by rfl) T.b_isinstance (by decide +kernel) (pa_cons (pv 4) (pa_cons (pe_bltn (v := .ty "tuple") rfl T.b_tuple (by decide +kernel) rfl) pa_nil))))) (pw_or1 (pt_cmpR op_gt (pe_callB call_lenX (by rfl) T.b_len PySem.boot_len (pa_cons (pv 4) pa_nil)) (pe_glob (v := .int 4) rfl gMOST_PARTS ⟨_, rfl⟩) (nomark _))))))) (pss_one (ps_ret pe_bl)) pss_nil) (pss_one (ps_ret (pe_and (pe_callB (cr_all rfl) (by rfl) T.b_all (by decide +kernel) (pa_cons (pe_lc (own := [("param", 6)]) (g := (gName 6)) (tt := tYes) rfl sc_is_def.nd (pi_tup (pv 4)) (blkOk_by (own := [("param", 6)]) (N := ["thing", "word", "place", "name", "params", "body", "param"]) (sc := defScope s_is_def) (by decide +kernel)) (fun _ _ _ _ _ => (pg_name (i := 6) sc_is_def.nd rfl (by first | exact Or.inl rfl | exact Or.inr rfl))) (fun _ _ _ _ _ => pts_nil) (fun _ _ _ _ _ => (pe_cal C_is_name hr (pa_cons (pv 6) pa_nil)))) pa_nil)) (pe_one (pe_cal C_is_tree hr (pa_cons (pv 5) (pa_cons (pe_glob (v := .int 10) rfl gDEEP ⟨_, rfl⟩) pa_nil)))))))))), ?_⟩
  walk_at "go"
  refine r_isi_tup hv ?_
  walk_at "go"
  refine r_len_td hv ?_
  walk_at "go"
  refine r_ix_str hv 0 rfl ?_
  walk_at "go"
  refine r_gTup rfl ha rfl ?_
  walk_at "go"
  refine ⟨_, _, rfl, t2, ok.p, fun H1 k1 => ?_⟩
  walk_at "go"
  refine ⟨_, rfl, ok.name, fun H2 k2 => ?_⟩
  walk_at "go"
  have k12 := k1.trans k2
  refine r_isi_tup (t4.mono k12) ?_
  walk_at "go"
  refine r_len_td (t4.mono k12) ?_
  walk_at "go"
  refine r_no (decide_eq_false (by rw [List.length_map]; have := ok.few; omega)) ?_
  walk_at "go"
  refine ⟨⟨_, SqT.of (k12.atT ha4)⟩, ?_⟩
  have hlen : (d.params.map V.str).length ≤ 4 := by
    rw [List.length_map]
    exact ok.few
  refine lcAll walk_tup (by omega) (fun H1 k => SqT.of (k.atT (k12.atT ha4))) ?_ ?_
  · rintro i y D acc H3 H4 hi hD hl k hdd r ⟨rfl, hy⟩
    walk_at "go"
    refine ⟨rfl, ?_⟩
    walk_at "go"
    rw [List.getElem?_map] at hy
    cases hq : d.params[i]? with
    | none =>
      rw [hq] at hy
      cases hy
    | some x =>
      rw [hq] at hy
      cases hy
      exact ⟨x, rfl, ok.params x (List.mem_of_getElem? hq), fun H5 k5 => lc_finT hD hi (by omega) hl (k.trans k5) (k5.at hdd ni0) r⟩
  · intro D acc H3 k3 hdd r
    walk_at "go"
    refine r_all_true hdd r ?_
    walk_at "go"
    exact ⟨_, d.body, rfl, (t5.mono k12).mono k3, ok.dep, ok.body, fun H4 k4 => q _ (by walk_at "kp")⟩

def sp_is_program : Sp := fun vs H Q _ => ∃ (v : V) (p : List Df), vs = [v] ∧ TD H v (.tuple (p.map df)) ∧ p.length ≤ 8 ∧ (∀ d ∈ p, okDf d) ∧ ∀ H', Kp [] H H' → Q (.bl true) H'
theorem sc_is_program : FnScope ["thing", "one"] ["thing"] (defScope s_is_program) := ⟨rfl, rfl, rfl, by decide +kernel, rfl, by decide +kernel, by decide +kernel⟩
theorem c_is_program (T : Txt K mg) (C_is_def : Cal P w K mg base 15 "is_def" ["thing"] sp_is_def) : Cal P w K mg base 16 "is_program" ["thing"] sp_is_program := by
  obtain ⟨fd, F⟩ := T.F_is_program
  obtain ⟨tMOST_DEFS, gMOST_DEFS⟩ := T.i_MOST_DEFS
  refine mk_cal F T.g_is_program (fun _ _ _ _ _ _ us hl => match us, hl with | [_], _ => rfl) (mk_ok F sc_is_program (by walk_at "len") fun cdv A outer s H vs Q E hr h => ?_)
  obtain ⟨v, p, rfl, hv, hl, ok, q⟩ := h
  obtain ⟨a, xs, rfl, ha, ts⟩ := hv.inv
  refine ⟨_, (pss_one (ps_ret (pe_and (pe_callB call_isi (by rfl) T.b_isinstance (by decide +kernel) (pa_cons (pv 0) (pa_cons (pe_bltn (v := .ty "tuple") rfl T.b_tuple (by decide +kernel) rfl) pa_nil))) (pe_and (pe_cmpR op_le (pe_callB call_lenX (by rfl) T.b_len PySem.boot_len (pa_cons (pv 0) pa_nil)) (pe_glob (v := .int 8) rfl gMOST_DEFS ⟨_, rfl⟩) (nomark _)) (pe_one (pe_callB (cr_all rfl) (by rfl) T.b_all (by decide +kernel) (pa_cons (pe_lc (own := [("one", 1)]) (g := (gName 1)) (tt := tYes) rfl sc_is_program.nd (pi_tup (pv 0)) (blkOk_by (own := [("one", 1)]) (N := ["thing", "one"]) (sc := defScope s_is_program) (by decide +kernel)) (fun _ _ _ _ _ => (pg_name (i := 1) sc_is_program.nd rfl (by first | exact Or.inl rfl | exact Or.inr rfl))) (fun _ _ _ _ _ => pts_nil) (fun _ _ _ _ _ => (pe_cal C_is_def hr (pa_cons (pv 1) pa_nil)))) pa_nil))))))), ?_⟩
  walk_at "go"
  refine r_isi_tup hv ?_
  walk_at "go"
  refine r_len_td hv ?_
  walk_at "go"
  refine ⟨⟨_, SqT.of ha⟩, ?_⟩
  have hlen : xs.length ≤ 8 := by
    rw [ts.1, List.length_map]
    exact hl
  refine lcAll walk_tup (by omega) (fun H1 k => SqT.of (k.atT ha)) ?_ ?_
  · rintro i y D acc H3 H4 hi hD hl k hdd r ⟨rfl, hy⟩
    walk_at "go"
    refine ⟨rfl, ?_⟩
    walk_at "go"
    obtain ⟨d, hd, _, htd⟩ := ts.map_get hy
    exact ⟨y, d, rfl, htd.mono k, ok d hd, fun H5 k5 => lc_finT hD hi (by omega) hl (k.trans k5) (k5.at hdd ni0) r⟩
  · intro D acc H3 k3 hdd r
    walk_at "go"
    exact r_all_true hdd r (q _ k3)

def sp_need_program : Sp := fun vs H Q _ => ∃ (v : V) (p : List Df), vs = [v] ∧ TD H v (.tuple (p.map df)) ∧ p.length ≤ 8 ∧ (∀ d ∈ p, okDf d) ∧ ∀ H', Kp [] H H' → Q .non H'
theorem sc_need_program : FnScope ["thing"] ["thing"] (defScope s_need_program) := ⟨rfl, rfl, rfl, by decide +kernel, rfl, by decide +kernel, by decide +kernel⟩
theorem c_need_program (T : Txt K mg) (C_is_program : Cal P w K mg base 16 "is_program" ["thing"] sp_is_program) : Cal P w K mg base 17 "need_program" ["thing"] sp_need_program := by
  obtain ⟨fd, F⟩ := T.F_need_program
  refine mk_cal F T.g_need_program (fun _ _ _ _ _ _ us hl => match us, hl with | [_], _ => rfl) (mk_ok F sc_need_program (by walk_at "len") fun cdv A outer s H vs Q E hr h => ?_)
  obtain ⟨v, p, rfl, hv, hl, ok, q⟩ := h
  refine ⟨_, (pss_one (ps_if (pt_not (pt_val (pe_cal C_is_program hr (pa_cons (pv 0) pa_nil)))) (pss_one ps_never) pss_nil)), ?_⟩
  walk_at "go"
  refine ⟨v, p, rfl, hv, hl, ok, fun H1 k1 => ?_⟩
  walk_at "go"
  exact q _ k1
end
section
variable {P : Program} {w : World} {K : PySem.W.Frag} {mg : Str → Option Value} {base : Heap}
/-- the trees straight within one, with the locals that each sees -/
def scop : Tree → List Str → List (Tree × List Str)
  | .lt _ x a b, near => [(a, near), (b, near ++ [x])]
  | .cs _ w e h t b, near => [(w, near), (e, near), (b, near ++ [h, t])]
  | t, near => t.subs.map fun s => (s, near)
def scD (q : Tree × List Str) : PyData := .tuple [tr q.1, .tuple (q.2.map PyData.str)]
/-- names are used as they may be -/
def here (ar : Str → Option Nat) (near : List Str) : Tree → Prop
  | .use _ x as => (x ∈ near ∧ as = []) ∨ (x ∉ near ∧ ar x = some as.length)
  | .cs _ _ _ h t _ => h ≠ t
  | _ => True
inductive Snd (ar : Str → Option Nat) : List Str → Tree → Prop
  | mk {near : List Str} {t : Tree} (h : here ar near t) (hs : ∀ q ∈ scop t near, Snd ar q.2 q.1) : Snd ar near t
theorem Snd.here {ar : Str → Option Nat} {near : List Str} {t : Tree} (h : Snd ar near t) : Tp.here ar near t := by
  cases h with
  | mk h _ => exact h
theorem Snd.sub {ar : Str → Option Nat} {near : List Str} {t : Tree} (h : Snd ar near t) {q : Tree × List Str} (hq : q ∈ scop t near) : Snd ar q.2 q.1 := by
  cases h with
  | mk _ h => exact h q hq
theorem scop_sub {t : Tree} {near : List Str} {q : Tree × List Str} (h : q ∈ scop t near) : q.1 ∈ t.subs ∧ q.2.length ≤ near.length + 2 := by
  cases t <;> simp [scop, Tree.subs] at h ⊢
  · obtain ⟨a, ha, rfl⟩ := h
    exact ⟨ha, by simp⟩
  · rcases h with rfl | rfl <;> simp
  · rcases h with rfl | rfl | rfl <;> simp
  · rcases h with rfl | rfl <;> simp
  · rcases h with rfl | rfl | rfl <;> simp
theorem scop_few {t : Tree} {near : List Str} (h : okN t) : (scop t near).length ≤ 4 := by
  cases t <;> simp [scop, Tree.subs]
  exact h.2.2
def sp_scoped : Sp := fun vs H Q _ => ∃ (v nv : V) (t : Tree) (near : List Str), vs = [v, nv] ∧ TD H v (tr t) ∧ TD H nv (.tuple (near.map PyData.str)) ∧ near.length ≤ 900 ∧ okN t ∧ ∀ l ys H', Kp [] H H' → H l = none → H' l = some (.lst ys) → TDs H' ys ((scop t near).map scD) → Q (.ref l) H'
theorem sc_scoped : FnScope ["tree", "near", "one"] ["tree", "near"] (defScope s_scoped) := ⟨rfl, rfl, rfl, by decide +kernel, rfl, by decide +kernel, by decide +kernel⟩
theorem c_scoped (T : Txt K mg) (C_subtrees : Cal P w K mg base 1 "subtrees" ["tree"] sp_subtrees) : Cal P w K mg base 2 "scoped" ["tree", "near"] sp_scoped := by
  obtain ⟨fd, F⟩ := T.F_scoped
  refine mk_cal F T.g_scoped (fun _ _ _ _ _ _ us hl => match us, hl with | [_, _], _ => rfl) (mk_ok F sc_scoped (by walk_at "len") fun cdv A outer s H vs Q E hr h => ?_)
  obtain ⟨v, nv, t, near, rfl, hv, hn, hl, ok, q⟩ := h
  refine ⟨_, (pss_cons (ps_if (pt_cmpR (op_eqX hr) (pe_ix ix_seq (pv 0) pe_int (fun _ _ => rfl)) pe_str (nomark _)) (pss_one (ps_ret (pe_lstK (pa_cons (pe_tupK (pa_cons (pe_ix ix_seq (pv 0) pe_int (fun _ _ => rfl)) (pa_cons (pv 1) pa_nil))) (pa_cons (pe_tupK (pa_cons (pe_ix ix_seq (pv 0) pe_int (fun _ _ => rfl)) (pa_cons (pe_op op_catTK (pv 1) (pe_tupK (pa_cons (pe_ix ix_seq (pv 0) pe_int (fun _ _ => rfl)) pa_nil))) pa_nil))) pa_nil))))) pss_nil) (pss_cons (ps_if (pt_cmpR (op_eqX hr) (pe_ix ix_seq (pv 0) pe_int (fun _ _ => rfl)) pe_str (nomark _)) (pss_one (ps_ret (pe_lstK (pa_cons (pe_tupK (pa_cons (pe_ix ix_seq (pv 0) pe_int (fun _ _ => rfl)) (pa_cons (pv 1) pa_nil))) (pa_cons (pe_tupK (pa_cons (pe_ix ix_seq (pv 0) pe_int (fun _ _ => rfl)) (pa_cons (pv 1) pa_nil))) (pa_cons (pe_tupK (pa_cons (pe_ix ix_seq (pv 0) pe_int (fun _ _ => rfl)) (pa_cons (pe_op op_catTK (pv 1) (pe_tupK (pa_cons (pe_ix ix_seq (pv 0) pe_int (fun _ _ => rfl)) (pa_cons (pe_ix ix_seq (pv 0) pe_int (fun _ _ => rfl)) pa_nil)))) pa_nil))) pa_nil)))))) pss_nil) (pss_one (ps_ret (pe_lc (own := [("one", 2)]) (g := (gName 2)) (tt := tYes) rfl sc_scoped.nd (pi_list (pe_cal C_subtrees hr (pa_cons (pv 0) pa_nil))) (blkOk_by (own := [("one", 2)]) (N := ["tree", "near", "one"]) (sc := defScope s_scoped) (by decide +kernel)) (fun _ _ _ _ _ => (pg_name (i := 2) sc_scoped.nd rfl (by first | exact Or.inl rfl | exact Or.inr rfl))) (fun _ _ _ _ _ => pts_nil) (fun _ _ _ _ _ => (pe_tupK (pa_cons (pv 2) (pa_cons (pv 1) pa_nil))))))))), ?_⟩
  by_cases hlet : ∃ p x a b, t = .lt p x a b
  · obtain ⟨p, x, a, b, rfl⟩ := hlet
    simp only [tr_lt] at hv
    walk_at "go"
    refine r_ix_str hv 0 rfl ?_
    walk_at "go"
    refine r_ix hv 3 rfl fun v1 h1 => ?_
    walk_at "go"
    refine ⟨by simp, fun p1 H1 k1 n1 e1 => ?_⟩
    walk_at "go"
    refine r_ix (hv.mono k1) 4 rfl fun v2 h2 => ?_
    walk_at "go"
    refine r_ix_str (hv.mono k1) 2 rfl ?_
    walk_at "go"
    refine ⟨by simp, fun p2 H2 k2 n2 e2 => ?_⟩
    walk_at "go"
    refine ⟨near.map PyData.str, [PyData.str x], by walk_at "td", by walk_at "td", by simp; omega, fun z H3 k3 h3 => ?_⟩
    walk_at "go"
    refine ⟨by simp, fun p4 H4 k4 n4 e4 => ?_⟩
    walk_at "go"
    refine ⟨by simp, fun l H5 k5 n5 e5 => ?_⟩
    refine q l _ H5 (by walk_at "kp") (k1.free (k2.free (k3.free (k4.free n5)))) e5 ?_
    show TDs H5 _ [.tuple [tr a, .tuple (near.map PyData.str)], .tuple [tr b, .tuple ((near ++ [x]).map PyData.str)]]
    rw [List.map_append]
    refine .cons (TD.mono (by walk_at "kp" : Kp [] H1 H5) (by walk_at "td")) (.cons ?_ .nil)
    have h3 : TD H3 z (.tuple (near.map PyData.str ++ [x].map PyData.str)) := h3
    walk_at "td"
  by_cases hcase : ∃ p a e x y b, t = .cs p a e x y b
  · obtain ⟨p, a, e, x, y, b, rfl⟩ := hcase
    simp only [tr_cs] at hv
    walk_at "go"
    refine r_ix_str hv 0 rfl ?_
    walk_at "go"
    refine r_ix_str hv 0 rfl ?_
    walk_at "go"
    refine r_ix hv 2 rfl fun v1 h1 => ?_
    walk_at "go"
    refine ⟨by simp, fun p1 H1 k1 n1 e1 => ?_⟩
    walk_at "go"
    refine r_ix (hv.mono k1) 3 rfl fun v2 h2 => ?_
    walk_at "go"
    refine ⟨by simp, fun p2 H2 k2 n2 e2 => ?_⟩
    walk_at "go"
    have k12 := k1.trans k2
    refine r_ix (hv.mono k12) 6 rfl fun v3 h3 => ?_
    walk_at "go"
    refine r_ix_str (hv.mono k12) 4 rfl ?_
    walk_at "go"
    refine r_ix_str (hv.mono k12) 5 rfl ?_
    walk_at "go"
    refine ⟨by simp, fun p3 H3 k3 n3 e3 => ?_⟩
    walk_at "go"
    refine ⟨near.map PyData.str, [PyData.str x, PyData.str y], TD.mono (k12.trans k3) hn, by walk_at "td", by simp; omega, fun z H4 k4 h4 => ?_⟩
    walk_at "go"
    refine ⟨by simp, fun p5 H5 k5 n5 e5 => ?_⟩
    walk_at "go"
    refine ⟨by simp, fun l H6 k6 n6 e6 => ?_⟩
    refine q l _ H6 ((((k12.trans k3).trans k4).trans k5).trans k6) (k12.free (k3.free (k4.free (k5.free n6)))) e6 ?_
    show TDs H6 _ [.tuple [tr a, .tuple (near.map PyData.str)], .tuple [tr e, .tuple (near.map PyData.str)], .tuple [tr b, .tuple ((near ++ [x, y]).map PyData.str)]]
    rw [List.map_append]
    have k36 := ((k3.trans k4).trans k5).trans k6
    have g1 : TD H1 (.ref p1) (.tuple [tr a, .tuple (near.map PyData.str)]) := .mk e1 (.cons (h1.mono k1) (.cons (hn.mono k1) .nil))
    have g2 : TD H2 (.ref p2) (.tuple [tr e, .tuple (near.map PyData.str)]) := .mk e2 (.cons (h2.mono k2) (.cons (hn.mono k12) .nil))
    have h4 : TD H4 z (.tuple (near.map PyData.str ++ [x, y].map PyData.str)) := h4
    have g3 : TD H5 (.ref p5) (.tuple [tr b, .tuple (near.map PyData.str ++ [x, y].map PyData.str)]) := .mk e5 (.cons (h3.mono ((k3.trans k4).trans k5)) (.cons (h4.mono k5) .nil))
    exact .cons (g1.mono (k2.trans k36)) (.cons (g2.mono k36) (.cons (g3.mono k6) .nil))
  have es : scop t near = t.subs.map fun s => (s, near) := by
    cases t <;> first | rfl | exact absurd ⟨_, _, _, _, rfl⟩ hlet | exact absurd ⟨_, _, _, _, _, _, rfl⟩ hcase
  have w1 : ¬ t.word = "let" := by
    cases t <;> first | (simp only [Tree.word]; decide +kernel) | exact absurd ⟨_, _, _, _, rfl⟩ hlet
  have w2 : ¬ t.word = "case" := by
    cases t <;> first | (simp only [Tree.word]; decide +kernel) | exact absurd ⟨_, _, _, _, _, _, rfl⟩ hcase
  have hv2 := hv
  rw [tr_eq] at hv2
  walk_at "r"; walk_at "r"; walk_at "r"; walk_at "r"; walk_at "r"; walk_at "r"
  refine r_ix_str hv2 0 rfl ?_
  walk_at "rr"
  refine r_no (decide_eq_false w1) ?_
  walk_at "rr"
  refine r_ix_str hv2 0 rfl ?_
  walk_at "rr"
  refine r_no (decide_eq_false w2) ?_
  walk_at "go"
  refine ⟨v, t, rfl, hv, fun l ys H1 k1 n1 e1 t1 => ?_⟩
  walk_at "go"
  refine ⟨⟨_, SqL.of e1⟩, ?_⟩
  have few : ys.length ≤ 4 := by
    rw [t1.1, List.length_map]
    exact subs_few ok
  refine lcW walk_list (by omega) [] (fun i acc H' => TDs H' acc ((t.subs.take i).map fun s => scD (s, near))) (fun H3 k => SqL.of (k.at e1 ni0)) (fun _ _ _ _ => .nil) ?_ ?_
  · rintro i y D acc H3 H4 hi hD hl2 k hdd r ⟨rfl, hy⟩
    walk_at "go"
    refine ⟨rfl, ?_⟩
    walk_at "go"
    refine ⟨by simp, fun p2 H5 k5 n5 e5 => ?_⟩
    obtain ⟨s, hs, his, hts⟩ := t1.map_get hy
    refine lc_fin hD (by omega) hl2 (k.trans k5) (k5.at hdd ni0) fun H6 k6 => ?_
    have et : t.subs.take (i + 1) = t.subs.take i ++ [s] := by
      rw [List.take_add_one, his]
      rfl
    rw [et, List.map_append]
    refine ((r.mono k5).mono k6).append (.cons (TD.mono k6 (.mk e5 (.cons ((hts.mono k).mono k5) (.cons (hn.mono ((k1.trans k).trans k5)) .nil)))) .nil)
  · intro D acc H3 hD _ k hdd r
    walk_at "go"
    refine q D acc H3 (k1.trans k) (k1.free hD) hdd ?_
    have e : ys.length = t.subs.length := by rw [t1.1, List.length_map]
    rw [e, List.take_length] at r
    rw [es, List.map_map]
    exact r
end
end Tp
set_option Elab.async false
set_option linter.all false
set_option maxRecDepth 100000
set_option maxHeartbeats 4000000
namespace Tp
open PySem PySem.Spec PyProof.Rows L2

/-! ### enumerate, zip over lists and tuples in any mix -/
/-- at a stands a list (false), a tuple (true) of these -/
def SqB (K : PySem.W.Frag) (b : Bool) (H : Hp) (a : Addr) (xs : List V) : Prop := if b = true then SqT K H a xs else SqL K H a xs
def StI (b : Bool) (h : Heap) (it l : Addr) (i : Nat) : Prop := if b = true then h.IsTupleIter it l i else h.IsListIter it l i
def StO (b : Bool) (h : Heap) (l : Addr) (items : Array Value) : Prop := if b = true then h.IsTuple l items else h.IsList l items
theorem drawsB {prog : Program} {w : World} {A : Around} (hh : A.handled = none) (b : Bool) (it l : Addr) (hne : l ≠ it) (items : Array Value) :
    Draws prog w A it [it, l] items.size (fun i v => items[i]? = some v) (fun i h => StI b h it l i ∧ StO b h l items) := by
  cases b
  · exact Draws.list hh it l hne items
  · exact Draws.tuple hh it l hne items
theorem StI.at {b : Bool} {h h' : Heap} {it l : Addr} {i : Nat} (x : StI b h it l i) (k : ∀ o, h.get? it = some o → h'.get? it = some o) : StI b h' it l i := by
  cases b
  · exact Heap.IsListIter.at x k
  · exact Heap.IsTupleIter.at x k
theorem StI.obj {b : Bool} {h : Heap} {it l : Addr} {i : Nat} (x : StI b h it l i) : ∃ o, h.get? it = some o ∧ ∀ v, o.data ≠ .cell v := by
  cases b
  · obtain ⟨o, ho, _, hd⟩ := (show h.IsListIter it l i from x)
    exact ⟨o, ho, fun v q => by rw [hd] at q; cases q⟩
  · obtain ⟨o, ho, _, hd⟩ := (show h.IsTupleIter it l i from x)
    exact ⟨o, ho, fun v q => by rw [hd] at q; cases q⟩
theorem SqB.get {X : Cx} {pins : List (Addr × Obj)} {σ : L2.St} {H : Hp} {s : Shared} {b : Bool} {a : Addr} {xs : List V} (I : Inv X pins σ H s) (h : SqB X.K b H a xs) : ∃ its : List Value, Vals xs its ∧ StO b s.heap a its.toArray ∧ a < s.heap.objs.size := by
  cases b
  · obtain ⟨its, rv, p, _⟩ := I.list (show SqL X.K H a xs from h)
    exact ⟨its, rv, p.isList, p.lt⟩
  · obtain ⟨its, rv, p, _⟩ := I.tuple (show SqT X.K H a xs from h)
    obtain ⟨o, ho, _⟩ := id p
    exact ⟨its, rv, p, Heap.lt_size ho⟩
theorem SqB.inj {X : Cx} {pins : List (Addr × Obj)} {σ : L2.St} {H : Hp} {s : Shared} {b : Bool} {a : Addr} {xs ys : List V} (I : Inv X pins σ H s) (h : SqB X.K b H a xs) (h' : SqB X.K b H a ys) : xs = ys := by
  cases b
  · exact I.list_inj h h'
  · exact I.tuple_inj h h'
def obB (b : Bool) (a : Addr) : Obj := if b = true then { cls := .type "tuple_iterator", data := .fields #[.ref a, .int 0 0] } else { cls := .type "list_iterator", data := .fields #[.ref a, .int 0 0] }
theorem beginsB (b : Bool) (a : Addr) (items : Array Value) : Begins (.ref a) (obB b a) fun h => StO b h a items := by
  cases b
  · exact begins_list a items
  · exact begins_tuple a items
theorem StI.begin {b : Bool} {h : Heap} {it a : Addr} (x : h.get? it = some (obB b a)) : StI b h it a 0 := by
  cases b
  · exact ⟨_, x, rfl, rfl⟩
  · exact ⟨_, x, rfl, rfl⟩

def IteB (K : PySem.W.Frag) (b : Bool) (a : Addr) : It :=
  ⟨fun i H => ∃ (xs : List V) (x : V), SqB K b H a xs ∧ xs[i]? = some x, fun i H v H' => ∃ T x, v = .ref T ∧ H T = none ∧ H' = upd H T (.tup [.int (i : Nat), x]) ∧ ∀ xs, SqB K b H a xs → xs[i]? = some x, fun i H => ∃ xs : List V, SqB K b H a xs ∧ xs.length = i⟩
theorem turn_enumB {P : Program} {w : World} {K : PySem.W.Frag} {elts : List Expr} {kk : Nat} {tpos : Pos} (b : Bool) (a e it : Addr) :
    Turn P w K (.Tuple elts kk tpos) (IteB K b a) [e, it] e (fun i h => (∃ old, IsEnum h e it ((i : Nat) : Int) old) ∧ StI b h it a i ∧ e ≠ it ∧ a ≠ e ∧ a ≠ it) where
  mem := by simp
  obj := fun i h st c hb => by
    obtain ⟨⟨old, he⟩, hi, _⟩ := st
    have e' : c = e ∨ c = it := by simpa using hb
    rcases e' with z | z
    · rw [z]; exact ⟨_, he, fun v q => nomatch q⟩
    · rw [z]; exact hi.obj
  keep := fun i h h' st k => let ⟨⟨old, he⟩, hi, hne⟩ := st; ⟨⟨old, k e (by simp) _ he⟩, hi.at fun o q => k it (by simp) o q, hne⟩
  item := by
    intro X hP hw hK hc i pins s σ H E I hf st hg
    subst hP hw hK
    obtain ⟨⟨old, he⟩, hit, hne, hae, hai⟩ := st
    obtain ⟨xs, x, hq, hx⟩ := hg
    obtain ⟨its, rv, p, hz⟩ := SqB.get I hq
    obtain ⟨u, hu, ru⟩ := rv.get hx
    have hel : e < s.heap.objs.size := Heap.lt_size he
    have hil : it < s.heap.objs.size := by obtain ⟨_, q, _⟩ := hit.obj; exact Heap.lt_size q
    have hlt : i < its.toArray.size := by
      rw [List.size_toArray, ← rv.length]
      exact (List.getElem?_eq_some_iff.mp hx).1
    refine wpAny_pyNext_enum_itemC (drawsB (A := X.A.in1) (I.ok.hd hc) b it a hai its.toArray) he ⟨hit, p⟩ hlt hne (by simp [hne, hae.symm]) fun x' h' tk hP' ho hst' hT hsz hk => ?_
    obtain rfl : x' = u := by
      have q : its.toArray[i]? = some x' := hP'
      rw [List.getElem?_toArray, hu] at q
      exact (Option.some.inj q).symm
    refine ⟨_, rfl, wpAny_letOwnedTupleGo_enum (s := { s with heap := h', toks := tk + 1 }) ho fun h'' he' sb => ?_⟩
    have hT2 : h''.get? s.heap.objs.size = some { cls := .type "tuple", data := .seq #[.int i tk, x'] } := (sb.2 _ (Nat.ne_of_gt hel)).trans hT
    have new : ObjOk X.prog X.w (upd H s.heap.objs.size (.tup [.int (i : Nat), x])) h'' s.heap.objs.size (.tup [.int (i : Nat), x]) :=
      ⟨by show 2 ≤ sizeLine; decide, [.int i tk, x'], .cons ⟨_, rfl⟩ (.cons ru .nil), ⟨_, hT2, rfl, _, rfl⟩⟩
    have I1 : Inv X pins σ (upd H s.heap.objs.size (.tup [.int (i : Nat), x])) { s with heap := h'', toks := tk + 1 } :=
      I.turnedNew (ch := [e, it]) (fun c ob hb q => (sb.2 c (fun z => hb (by simp [z]))).trans (hk c ob (fun z => hb (by simp [z])) (fun z => hb (by simp [z])) q)) hf (Nat.le_refl _) new
    refine ⟨.ref s.heap.objs.size, _, I1, rfl, ⟨_, x, rfl, I.hok.fresh (Nat.le_refl _), rfl, fun ys hy => by rw [SqB.inj I hy hq]; exact hx⟩, ⟨⟨x', ?_⟩, hst'.1.at fun o q => (sb.2 it (Ne.symm hne)).trans q, hne, hae, hai⟩, fun c hb => ?_⟩
    · have e1 : ((i + 1 : Nat) : Int) = (i : Int) + 1 := by omega
      rw [e1]; exact he'
    · have hb' : c < s.heap.objs.size := by
        have e' : c = e ∨ c = it := by simpa using hb
        rcases e' with z | z
        · rw [z]; exact hel
        · rw [z]; exact hil
      rw [upd_ne (Nat.ne_of_lt hb')]
      exact (hf c hb).1
  done := by
    intro X hP hw hK hc i pins s σ H E I hf st hg
    subst hP hw hK
    obtain ⟨⟨old, he⟩, hit, hne, hae, hai⟩ := st
    obtain ⟨xs, hq, hx⟩ := hg
    obtain ⟨its, rv, p, hz⟩ := SqB.get I hq
    have hl : i = its.toArray.size := by rw [List.size_toArray, ← rv.length, hx]
    rw [hl] at hit
    exact wpAny_pyNext_enum_endD (drawsB (A := X.A.in1) (I.ok.hd hc) b it a hai its.toArray) he ⟨hit, p⟩ fun h' eb => ⟨rfl, I.turnedL (t' := s.toks) (ch := [it]) (fun c o hb q => eb c o (fun z => hb (by simp [z])) q) fun c hb => hf c (by simp at hb; simp [hb])⟩
  self := fun A i s Q E st h => let ⟨⟨_, he⟩, _⟩ := st; wpAny_pyIter_enum he h
def iEnumB (K : PySem.W.Frag) (b : Bool) (ta : TA) : TI := fun σ H R => ta σ H fun vs H1 => ∃ a xs, vs = [.ref a] ∧ SqB K b H1 a xs ∧ R (IteB K b a) H1

set_option maxHeartbeats 8000000 in
theorem meets_enumerate_newB1 {v : Value} {o : Obj} {H : Heap → Prop} (B : Begins v o H) :
    Meets (Builtin.«enumerate.__new__» ⟨[.type "enumerate", v], []⟩) (fun _ R s => H s.heap ∧
      R (.ok (.ret (.ref (s.heap.push o).objs.size))) { s with heap := (s.heap.push o).push { cls := .type "enumerate", data := .fields #[.none, .bool false, .ref s.heap.objs.size, rawInt 0, .none, .none] } }) :=
  .of_wp fun prog w A R s h => by
    obtain ⟨hp, g, d, tk, os⟩ := s; obtain ⟨h1, h⟩ := h
    have hsub := sub_enumerate
    have q1 : ∀ {A' : Around} {E : Value → Shared → Prop} {Q : Value → Shared → Prop}, Q (.ref hp.objs.size) ⟨hp.push o, g, d, tk, os⟩ → wpAny (model prog w) A' (pyIter v) Q E ⟨hp, g, d, tk, os⟩ :=
      fun q => B.iter prog w _ _ ⟨hp, g, d, tk, os⟩ _ h1 q
    wp_walk using q1
    refine wpAny_stack_any fun st => wpAny_pure ?_
    split
    · rename_i c _ _ _ _ _
      cases (c == Value.type "enumerate")
      · wp_walk using q1
        exact ⟨_, rfl, h⟩
      · wp_walk using q1
        exact ⟨_, rfl, h⟩
    · wp_walk using q1
      exact ⟨_, rfl, h⟩
theorem enum_begins1 {prog : Program} {w : World} {A : Around} {E : Value → Shared → Prop} {s : Shared} {v : Value} {o : Obj} {H : Heap → Prop} {Q : Value → Shared → Prop} (B : Begins v o H) (h1 : H s.heap)
    (h : ∀ h', IsEnum h' (s.heap.objs.size + 1) s.heap.objs.size 0 .none → h'.get? s.heap.objs.size = some o → h'.objs.size = s.heap.objs.size + 2 →
      (∀ b o, s.heap.get? b = some o → h'.get? b = some o) → Q (.ref (s.heap.objs.size + 1)) { s with heap := h' }) :
    wpAny (model prog w) A (call (.type "enumerate") [v]) Q E s := by
  refine callType_new F.called_enumerate (by decide) (F.typeCall_enumerate_1 _) (F.newCall_enumerate_1 _) (fun obj => F.args_object_init_2 obj _) F.entry_enumerate_new
    (meets_enumerate_newB1 B) ⟨h1, ?_⟩
  have hz : (s.heap.push o).objs.size = s.heap.objs.size + 1 := Heap.size_push ..
  show _ ∧ _
  rw [hz]
  have he : IsEnum ((s.heap.push o).push { cls := .type "enumerate", data := .fields #[.none, .bool false, .ref s.heap.objs.size, rawInt 0, .none, .none] }) (s.heap.objs.size + 1) s.heap.objs.size 0 .none := by
    have := Heap.get?_push_size (s.heap.push o) (o := { cls := .type "enumerate", data := .fields #[.none, .bool false, .ref s.heap.objs.size, rawInt 0, .none, .none] }) rfl
    rw [hz] at this; exact this
  refine ⟨⟨_, he, rfl⟩, h _ he (Heap.get?_push_of_some _ (Heap.get?_push_size _ B.free)) (by rw [Heap.size_push, hz]) fun b o x => Heap.get?_push_of_some _ (Heap.get?_push_of_some _ x)⟩
theorem pi_enumB (b : Bool) {X : Cx} {e : Expr} {ta : TA} {p pos tpos : Pos} {elts : List Expr} {kk : Nat} (hg : Gl X "enumerate") (hm : X.mg "enumerate" = none) (ha : PA X [e] ta) (hs : starEach [e] X.env = [(false, eval e X.env)] := by rfl) :
    PI X (.Tuple elts kk tpos) (.Call (.Name "enumerate" p) [e] [] pos) (iEnumB X.K b ta) := by
  refine ⟨fun pins s σ H R I h => ?_⟩
  refine Call_ (ld_blt I hg hm boot_enumerate (PyProof.Rows.callWith_type1 (thn (ha.run pos pins s σ H _ I h) fun us s1 ⟨vs, H1, I1, r1, q1⟩ => ?_) hs rfl))
  obtain ⟨a, xs, ex, hq, q⟩ := q1
  subst ex
  cases r1 with
  | cons r rr =>
    cases rr
    cases r
    obtain ⟨its, rv, p', hz⟩ := SqB.get I1 hq
    refine enum_begins1 (beginsB b a its.toArray) p' fun h' he hit hsz hk => wpAny_pyIter_enum he ?_
    have I2 : Inv X pins σ H1 { s1 with heap := h' } := I1.kept (t' := s1.toks) hk
    refine ⟨s1.heap.objs.size + 1, [s1.heap.objs.size + 1, s1.heap.objs.size], _, _, H1, rfl, I2, turn_enumB b a (s1.heap.objs.size + 1) s1.heap.objs.size, ⟨⟨.none, he⟩, StI.begin hit, Nat.succ_ne_self _, Nat.ne_of_lt (Nat.lt_succ_of_lt hz), Nat.ne_of_lt hz⟩, fun c hb => ?_, q⟩
    have e' : c = s1.heap.objs.size + 1 ∨ c = s1.heap.objs.size := by simpa using hb
    have hle : s1.heap.objs.size ≤ c := by
      rcases e' with z | z
      · rw [z]; exact Nat.le_add_right _ _
      · rw [z]; exact Nat.le_refl _
    exact I1.fpOk hle (I1.hok.fresh hle)
theorem walk_enumB {K : PySem.W.Frag} {b : Bool} {a : Addr} {xs : List V} : Walk (IteB K b a) xs.length (fun H => SqB K b H a xs) (YPair (fun i => some (.int (i : Nat))) (fun i => xs[i]?)) := by
  refine ⟨fun i _ hi q => ⟨xs, xs[i], q, by simp [hi]⟩, fun _ q => ⟨xs, q, rfl⟩, fun i H x H' _ q y => ?_⟩
  obtain ⟨T, z, h1, h2, h3, h4⟩ := y
  exact ⟨T, .int (i : Nat), z, h1, h2, h3, rfl, h4 xs q⟩

/-! ### zip -/
def ItzB (K : PySem.W.Frag) (b c : Bool) (l m : Addr) : It :=
  ⟨fun i H => ∃ (xs ys : List V) (x y : V), SqB K b H l xs ∧ SqB K c H m ys ∧ xs[i]? = some x ∧ ys[i]? = some y,
    fun i H v H' => ∃ T x y, v = .ref T ∧ H T = none ∧ H' = upd H T (.tup [x, y]) ∧ (∀ xs, SqB K b H l xs → xs[i]? = some x) ∧ ∀ ys, SqB K c H m ys → ys[i]? = some y,
    fun i H => ∃ xs ys : List V, SqB K b H l xs ∧ SqB K c H m ys ∧ xs.length = i ∧ ys.length = i⟩
theorem turn_zipB {P : Program} {w : World} {K : PySem.W.Frag} {elts : List Expr} {kk : Nat} {tpos : Pos} {b c : Bool} {l m z TI TO i1 i2 : Addr} (D : ZipSep2 z TI TO i1 i2 [i1, l] [i2, m]) (hl : l ≠ i1) (hm : m ≠ i2) :
    Turn P w K (.Tuple elts kk tpos) (ItzB K b c l m) [z, TI, TO, i1, i2] z (fun i h => IsZip h z TI TO .none ∧ IsTupOf2 h TI (.ref i1) (.ref i2) ∧ (∃ x y, IsTupOf2 h TO x y) ∧ StI b h i1 l i ∧ StI c h i2 m i) where
  mem := by simp
  obj := fun i h st d hd => by
    obtain ⟨hz, hTI, ⟨x, y, hTO⟩, h1, h2⟩ := st
    have e' : d = z ∨ d = TI ∨ d = TO ∨ d = i1 ∨ d = i2 := by simpa using hd
    rcases e' with q | q | q | q | q
    · rw [q]; exact ⟨_, hz, fun v q => nomatch q⟩
    · rw [q]; exact ⟨_, hTI, fun v q => nomatch q⟩
    · rw [q]; exact ⟨_, hTO, fun v q => nomatch q⟩
    · rw [q]; exact h1.obj
    · rw [q]; exact h2.obj
  keep := fun i h h' st k => by
    obtain ⟨hz, hTI, ⟨x, y, hTO⟩, h1, h2⟩ := st
    exact ⟨k z (by simp) _ hz, k TI (by simp) _ hTI, ⟨x, y, k TO (by simp) _ hTO⟩, h1.at fun o q => k i1 (by simp) o q, h2.at fun o q => k i2 (by simp) o q⟩
  item := by
    intro X hP hw hK hc i pins s σ H E I hf st hg
    subst hP hw hK
    obtain ⟨hz, hTI, ⟨x0, y0, hTO⟩, h1, h2⟩ := st
    obtain ⟨xs, ys, x, y, hqx, hqy, hx, hy⟩ := hg
    obtain ⟨its, rv, p, hlz⟩ := SqB.get I hqx
    obtain ⟨its2, rv2, p2, hmz⟩ := SqB.get I hqy
    obtain ⟨u, hu, ru⟩ := rv.get hx
    obtain ⟨u2, hu2, ru2⟩ := rv2.get hy
    have hzl : z < s.heap.objs.size := Heap.lt_size hz
    have hlt1 : i < its.toArray.size := by
      rw [List.size_toArray, ← rv.length]
      exact (List.getElem?_eq_some_iff.mp hx).1
    have hlt2 : i < its2.toArray.size := by
      rw [List.size_toArray, ← rv2.length]
      exact (List.getElem?_eq_some_iff.mp hy).1
    refine wpAny_pyNext_zipD2_item D (drawsB (A := X.A.in1) (I.ok.hd hc) b i1 l hl its.toArray) (drawsB (A := X.A.in1) (I.ok.hd hc) c i2 m hm its2.toArray) hz hTI hTO ⟨h1, p⟩ ⟨h2, p2⟩ hlt1 hlt2 fun x1 x2 h' tk P1 P2 z' TO' st1 st2 hT hsz hk => ?_
    obtain rfl : x1 = u := by
      have q : its.toArray[i]? = some x1 := P1
      rw [List.getElem?_toArray, hu] at q
      exact (Option.some.inj q).symm
    obtain rfl : x2 = u2 := by
      have q : its2.toArray[i]? = some x2 := P2
      rw [List.getElem?_toArray, hu2] at q
      exact (Option.some.inj q).symm
    refine ⟨_, rfl, wpAny_letOwnedTupleGo_zip (s := { s with heap := h', toks := tk }) z' fun h'' z'' sb => ?_⟩
    have hT2 : h''.get? s.heap.objs.size = some { cls := .type "tuple", data := .seq #[x1, x2] } := (sb.2 _ (Nat.ne_of_gt hzl)).trans hT
    have new : ObjOk X.prog X.w (upd H s.heap.objs.size (.tup [x, y])) h'' s.heap.objs.size (.tup [x, y]) :=
      ⟨by show 2 ≤ sizeLine; decide, [x1, x2], .cons ru (.cons ru2 .nil), ⟨_, hT2, rfl, _, rfl⟩⟩
    have I1 : Inv X pins σ (upd H s.heap.objs.size (.tup [x, y])) { s with heap := h'', toks := tk } :=
      I.turnedNew (t' := tk) (ch := [z, TI, TO, i1, i2]) (fun c o hb q => (sb.2 c (fun q' => hb (by simp [q']))).trans (hk c o (fun q' => hb (by simp [q'])) (fun q' => hb (by simp [q'])) (fun q' => hb (by simp [q'])) (fun q' => hb (by simp [q'])) q)) hf (Nat.le_refl _) new
    refine ⟨.ref s.heap.objs.size, _, I1, rfl, ⟨_, x, y, rfl, I.hok.fresh (Nat.le_refl _), rfl, fun l hl => by rw [SqB.inj I hl hqx]; exact hx, fun l hl => by rw [SqB.inj I hl hqy]; exact hy⟩, ⟨z'', ?_, ⟨x1, x2, ?_⟩, ?_, ?_⟩, fun d hcm => ?_⟩
    · exact (sb.2 _ D.TIz).trans (hk _ _ D.TIz D.TITO D.TIi1 D.TIi2 hTI)
    · exact (sb.2 _ D.TOz).trans TO'
    · exact st1.1.at fun o q => (sb.2 _ (fun q' => D.zf1 (by simp [q']))).trans q
    · exact st2.1.at fun o q => (sb.2 _ (fun q' => D.zf2 (by simp [q']))).trans q
    · have hlt : d < s.heap.objs.size := by
        have e' : d = z ∨ d = TI ∨ d = TO ∨ d = i1 ∨ d = i2 := by simpa using hcm
        rcases e' with q | q | q | q | q
        · rw [q]; exact hzl
        · rw [q]; exact Heap.lt_size hTI
        · rw [q]; exact Heap.lt_size hTO
        · rw [q]; obtain ⟨_, e1, _⟩ := h1.obj; exact Heap.lt_size e1
        · rw [q]; obtain ⟨_, e2, _⟩ := h2.obj; exact Heap.lt_size e2
      rw [upd_ne (Nat.ne_of_lt hlt)]
      exact (hf d hcm).1
  done := by
    intro X hP hw hK hc i pins s σ H E I hf st hg
    subst hP hw hK
    obtain ⟨hz, hTI, ⟨x0, y0, hTO⟩, h1, h2⟩ := st
    obtain ⟨xs, ys, hqx, hqy, e1, e2⟩ := hg
    obtain ⟨its, rv, p, _⟩ := SqB.get I hqx
    obtain ⟨its2, rv2, p2, _⟩ := SqB.get I hqy
    have l1 : i = its.toArray.size := by rw [List.size_toArray, ← rv.length, e1]
    have l2 : i = its2.toArray.size := by rw [List.size_toArray, ← rv2.length, e2]
    exact wpAny_pyNext_zipD2_end D (drawsB (A := X.A.in1) (I.ok.hd hc) b i1 l hl its.toArray) (drawsB (A := X.A.in1) (I.ok.hd hc) c i2 m hm its2.toArray) hz hTI hTO ⟨h1, p⟩ ⟨h2, p2⟩ (Nat.le_of_eq l1) (Nat.le_of_eq l2) (.inl l1) fun h' tk hk => ⟨rfl, I.turnedL (t' := tk) (ch := [z, TI, TO, i1, i2]) (fun c o hb q =>
      hk c o (fun q' => hb (by simp [q'])) (fun q' => hb (by simp [q'])) (fun q' => hb (by simp [q'])) (fun q' => hb (by simp [q'])) q) hf⟩
  self := fun A i s Q E st h => wpAny_pyIter_zip st.1 h
def iZipB (K : PySem.W.Frag) (b c : Bool) (ta : TA) : TI := fun σ H R => ta σ H fun vs H1 => ∃ l m xs ys, vs = [.ref l, .ref m] ∧ SqB K b H1 l xs ∧ SqB K c H1 m ys ∧ R (ItzB K b c l m) H1
theorem pi_zipB (b c : Bool) {X : Cx} {e e2 : Expr} {ta : TA} {p pos tpos : Pos} {elts : List Expr} {kk : Nat} (hg : Gl X "zip") (hm : X.mg "zip" = none) (ha : PA X [e, e2] ta)
    (hs : starEach [e, e2] X.env = (false, eval e X.env) :: starEach [e2] X.env := by rfl) (hpl : (backTo pos (starEach [e2] X.env)).any (·.1) = false := by rfl) :
    PI X (.Tuple elts kk tpos) (.Call (.Name "zip" p) [e, e2] [] pos) (iZipB X.K b c ta) := by
  refine ⟨fun pins s σ H R I h => ?_⟩
  refine Call_ (ld_blt I hg hm PyProof.Rows.boot_zip (PyProof.Rows.callWith_type1 (thn (ha.run pos pins s σ H _ I h) fun us s1 ⟨vs, H1, I1, r1, q1⟩ => ?_) hs hpl))
  obtain ⟨l, m, xs, ys, ex, hqx, hqy, q1⟩ := q1
  subst ex
  cases r1 with
  | cons r rr =>
    cases rr with
    | cons r' rr =>
      cases rr
      cases r
      cases r'
      obtain ⟨its, rv, p1, hlz⟩ := SqB.get I1 hqx
      obtain ⟨its2, rv2, p2, hmz⟩ := SqB.get I1 hqy
      refine zip_begins2 (beginsB b l its.toArray) (beginsB c m its2.toArray) p1 p2 fun h' hz hTI hTO h1 h2 hsz hk => wpAny_pyIter_zip hz ?_
      have I2 : Inv X pins σ H1 { s1 with heap := h' } := I1.kept (t' := s1.toks) hk
      have hD : ZipSep2 (s1.heap.objs.size + 4) (s1.heap.objs.size + 2) (s1.heap.objs.size + 3) s1.heap.objs.size (s1.heap.objs.size + 1) [s1.heap.objs.size, l] [s1.heap.objs.size + 1, m] :=
        zip_sep2 (fun b hb => by rw [List.mem_singleton.mp hb]; exact hlz) (fun b hb => by rw [List.mem_singleton.mp hb]; exact hmz)
      refine ⟨s1.heap.objs.size + 4, [s1.heap.objs.size + 4, s1.heap.objs.size + 2, s1.heap.objs.size + 3, s1.heap.objs.size, s1.heap.objs.size + 1], _, _, H1, rfl, I2, turn_zipB hD (Nat.ne_of_lt hlz) (Nat.ne_of_lt (Nat.lt_succ_of_lt hmz)), ⟨hz, hTI, ⟨_, _, hTO⟩, StI.begin h1, StI.begin h2⟩, fun d hcm => ?_, q1⟩
      have e' : d = s1.heap.objs.size + 4 ∨ d = s1.heap.objs.size + 2 ∨ d = s1.heap.objs.size + 3 ∨ d = s1.heap.objs.size ∨ d = s1.heap.objs.size + 1 := by simpa using hcm
      have hle : s1.heap.objs.size ≤ d := by
        rcases e' with z | z | z | z | z
        · rw [z]; exact Nat.le_add_right _ _
        · rw [z]; exact Nat.le_add_right _ _
        · rw [z]; exact Nat.le_add_right _ _
        · rw [z]; exact Nat.le_refl _
        · rw [z]; exact Nat.le_add_right _ _
      exact I1.fpOk hle (I1.hok.fresh hle)
/-- both of one length -/
theorem walk_zipB {K : PySem.W.Frag} {b c : Bool} {l m : Addr} {xs ys : List V} (h : ys.length = xs.length) : Walk (ItzB K b c l m) xs.length (fun H => SqB K b H l xs ∧ SqB K c H m ys) (YPair (fun i => xs[i]?) (fun i => ys[i]?)) := by
  refine ⟨fun i _ hi q => ⟨xs, ys, xs[i], ys[i]'(by omega), q.1, q.2, by simp [hi], by simp [show i < ys.length by omega]⟩, fun _ q => ⟨xs, ys, q.1, q.2, rfl, h⟩, fun i H x H' _ q y => ?_⟩
  obtain ⟨T, z, u, h1, h2, h3, h4, h5⟩ := y
  exact ⟨T, z, u, h1, h2, h3, h4 xs q.1, h5 ys q.2⟩

/-! ### name = {..: .. for ..} on one line -/
theorem ps_setDc {X : Cx} {i : Nat} {y : Str} {py : Pos} {kx vx tg iter : Expr} {ifs : List Expr} {scope : Scope} {own : List (Str × Nat)} {pos spos : Pos} {wi : TI} {g : TG} {tt : TT} {tk tv : TE} (hc : X.calm = true) (hN : X.N.Nodup) (hy : X.N[i]? = some y) (hyl : X.env.scope.names.lookup y = some .local)
    (hsw : swapsWith (.DictComp kx vx [⟨tg, iter, ifs, 0⟩] scope pos) (some (.Name y py)) spos.line X.env = pure true) (hi : PI X tg iter wi) (ok : BlkOk X.N X.env.scope scope own)
    (hg : ∀ (s : Shared) (H : Hp) (C : Addr) (cl : List (Str × Addr)) (fp : List Addr), PG (X.blk s H scope (compEnvC scope cl C X.env) fp) tg g) (ht : ∀ (s : Shared) (H : Hp) (C : Addr) (cl : List (Str × Addr)) (fp : List Addr), PTs (X.blk s H scope (compEnvC scope cl C X.env) fp) ifs tt)
    (hk : ∀ (s : Shared) (H : Hp) (C : Addr) (cl : List (Str × Addr)) (fp : List Addr), PE (X.blk s H scope (compEnvC scope cl C X.env) fp) kx tk)
    (hv : ∀ (s : Shared) (H : Hp) (C : Addr) (cl : List (Str × Addr)) (fp : List Addr), PE (X.blk s H scope (compEnvC scope cl C X.env) fp) vx tv) (hs : ∀ x, foldedSetIterable iter X.env x = pure x := by intro _; rfl) :
    PS X (.Assign [.Name y py] (.DictComp kx vx [⟨tg, iter, ifs, 0⟩] scope pos) spos) (tAsg (tDc wi g tt tk tv (own.map (·.2))) (gName i)) := by
  refine ⟨fun pins s σ H D I h => ?_⟩
  rw [exec_Assign_Name_used _ _ _ _ hsw]
  refine wpAny_bind (wpAny_standAt (wpAny_bind ?_))
  show wpAny _ X.A (do let _ ← comprehension (.DictComp kx vx [⟨tg, iter, ifs, 0⟩] scope pos) scope X.env (firstIterPos [⟨tg, iter, ifs, 0⟩] pos) newDict false (eval iter X.env) (some (assign (.Name y py) X.env))) _ _ s
  have h : tDc wi g tt tk tv (own.map (·.2)) σ H (fun x H1 => gName i x σ H1 D.nx) := h
  refine wpAny_bind (thn (dc_core (Qf := fun _ s' => SP X pins D .next s') hc hN I hi ok hg ht hk hv hs h fun L C s' m H' I' q hn f => ?_) fun _ s' hq => wpAny_pure (wpAny_pure hq))
  show wpAny _ _ (assign (.Name y py) X.env (.ref L)) _ _ _
  refine wpAny_assign_Name (store_ok2 (v := V.ref L) I' hN hy (.inl hyl) rfl (fun s2 I2 ⟨a, sb, ha⟩ => ?_) (.inr hyl))
  obtain ⟨f0, f1, f2, f3, f4, f5⟩ := f
  have haC : C ≠ a := by
    rcases ha with z | z
    · rw [z]; exact f1
    · exact fun e => f4 y a z e.symm
  refine ⟨m, hn.sameBut sb haC, fun h3 sb3 => ?_⟩
  exact ⟨_, H', I2.turned (t' := s2.toks) (fun b o hb e => (sb3.2 b hb).trans e) f0 f1 f3 f4 f5, q⟩
theorem sw_trueD {kx vx : Expr} {gs : List Comprehension} {scope : Scope} {pos py : Pos} {y : Str} {l : Nat} {env : Env} (hk : env.scope.kind = .function) (hy : env.scope.names.lookup y = some .local) (hl : (py.line == pos.line) = true)
    (ha : (scope.names.any fun (n, k) => n == y && (k == .local || k == .cell)) = false) : swapsWith (.DictComp kx vx gs scope pos) (some (.Name y py)) l env = pure true := by
  have ky : env.kindOf y = some .local := hy
  have hb : env.blockKind = .function := by unfold Env.blockKind; rw [hk]; rfl
  unfold swapsWith
  simp only [hb, ky, ha, Expr.pos, hl]
  rfl
end Tp
set_option Elab.async false
set_option linter.all false
set_option maxRecDepth 100000
set_option maxHeartbeats 4000000
namespace Tp
open PySem PySem.Spec PyProof.Rows L2 PpSet

/-! ### {elt for target in iter ..}, elt a tuple of ints -/
section
variable {X : Cx}
theorem addT_ok {pins : List (Addr × Obj)} {σ : L2.St} {H : Hp} {s : Shared} {E : Value → Shared → Prop} {D x : Addr} {k : List Int} {L : List (Addr × List Int)} {Q : Value → Shared → Prop} (I : Inv X pins σ H s) (hD : H D = some (SetTO X.prog X.w D L)) (hL : ∀ p ∈ L, SqT X.K H p.1 (p.2.map V.int))
    (hx : SqT X.K H x (k.map V.int)) (hfew : L.length + 1 < 64) (hu : X.A.units + 64 < cLine)
    (h : ∀ L' s', (k ∈ L.map (·.2) → L' = L) → (k ∉ L.map (·.2) → L'.Perm ((x, k) :: L)) → Inv X pins σ (upd H D (SetTO X.prog X.w D L')) s' → Q .none s') : wpAny (model X.prog X.w) X.A (call (.builtin "set.add") [.ref D, .ref x]) Q E s := by
  have R0 : SetT0 X.prog X.w s.heap D L := (I.hok D _ hD).1
  obtain ⟨es, ep, t, R⟩ := R0.full fun p hp => I.isT (hL p hp)
  have hxT : IsT X.prog X.w s.heap k x := I.isT hx
  obtain ⟨o, ho, hex, hd⟩ := R.ob
  have hT : s.TypeIs (.ref D) "set" := ⟨o, ho, hex.1⟩
  refine wpAny_call_entry F.slot_set_add hT F.entry_set_add ?_ (F.args_set_add_2 _ _)
  unfold Builtin.«set.add» Builtin.Frozenset.oneOther
  simp only [List.isEmpty_nil, bind_assoc]
  unfold Builtin.Frozenset.addrOf setAdd
  refine wpAny_bind (wpAny_pure ?_)
  try dsimp only
  refine wpAny_bind (wpAny_pure ?_)
  try dsimp only
  refine wpAny_bind ?_
  refine wpAny_holding ?_
  refine wpAny_bind (wpAny_pyHash_tuple (by show X.A.units + 1 < cLine; omega) hxT ?_)
  refine add_at (s := { s with toks := s.toks + (k.length + 1) }) R hxT (by show X.A.units + 1 < cLine; omega) hfew fun b h' L' es' ep' t' hsb hS2 c1 c2 => ?_
  show wpAny _ _ (ret Value.none) _ _ _
  refine wpAny_pure ⟨_, rfl, ?_⟩
  obtain ⟨o2, ho2, _⟩ := hS2.ob
  exact h L' _ c1 c2 (I.write (e := D) (t' := s.toks + (k.length + 1)) (by rw [hD]; trivial) (.inl rfl) (fun b u hb hu => (hsb.2 b hb).trans hu) ⟨o2, ho2⟩ (setTO_new hS2.t0))
def tScT (K : PySem.W.Frag) (P : Program) (w : World) (wi : TI) (g : TG) (tt : TT) (te : TE) (vs : List Nat) : TE := fun σ H Q => wi σ H fun J H1 => ∀ D, H1 D = none → ∃ W : Nat → Nat → Hp → Prop, (∃ m, W 0 m (upd H1 D (SetTO P w D []))) ∧ ∀ i m H, W i m H →
  (J.stop i H ∧ Q (.ref D) H) ∨ (J.go i H ∧ ∃ Nx : Hp → Prop, (∀ H', Nx H' → ∃ m', m' < m ∧ W (i + 1) m' H') ∧ ∀ x H', J.yld i H x H' → g x (wipe σ vs) H' fun σ2 H2 => wipe σ2 vs = wipe σ vs ∧ tt σ2 H2 fun b H3 =>
    if b = true then te σ2 H3 fun y H4 => ∃ (x : Addr) (k : List Int) (L : List (Addr × List Int)), y = .ref x ∧ H4 D = some (SetTO P w D L) ∧ SqT K H4 x (k.map V.int) ∧ (∀ p ∈ L, SqT K H4 p.1 (p.2.map V.int)) ∧ L.length + 1 < 64 ∧
      ∀ L', (k ∈ L.map (·.2) → L' = L) → (k ∉ L.map (·.2) → L'.Perm ((x, k) :: L)) → Nx (upd H4 D (SetTO P w D L')) else Nx H3)
theorem scT_core {pins : List (Addr × Obj)} {s : Shared} {σ : L2.St} {H : Hp} {Q : VK} {elt tg iter : Expr} {ifs : List Expr} {scope : Scope} {own : List (PySem.Str × Nat)} {pos pos' : Pos} {wi : TI} {g : TG} {tt : TT} {te : TE} {use : Option (Value → Sem Unit)} {Qf : Value → Shared → Prop}
    (hc : X.calm = true) (hN : X.N.Nodup) (I : Inv X pins σ H s) (hi : PI X tg iter wi) (ok : BlkOk X.N X.env.scope scope own)
    (hg : ∀ (s : Shared) (H : Hp) (C : Addr) (cl : List (PySem.Str × Addr)) (fp : List Addr), PG (X.blk s H scope (compEnvC scope cl C X.env) fp) tg g) (ht : ∀ (s : Shared) (H : Hp) (C : Addr) (cl : List (PySem.Str × Addr)) (fp : List Addr), PTs (X.blk s H scope (compEnvC scope cl C X.env) fp) ifs tt)
    (he : ∀ (s : Shared) (H : Hp) (C : Addr) (cl : List (PySem.Str × Addr)) (fp : List Addr), PE (X.blk s H scope (compEnvC scope cl C X.env) fp) elt te) (hs : ∀ x, foldedSetIterable iter X.env x = pure x)
    (hu : X.A.units + 64 < cLine) (h : tScT X.K X.prog X.w wi g tt te (own.map (·.2)) σ H Q)
    (hRR : ∀ D C s' m H', Inv X pins σ H' s' → Q (.ref D) H' → s'.heap.Ns C m → FpOk X pins H' C → compPost (model X.prog X.w) X.A X.xe use Qf (.ref D) C (.ok .next) s') :
    wpAny (model X.prog X.w) X.A (comprehension (.SetComp elt [⟨tg, iter, ifs, 0⟩] scope pos) scope X.env pos' (newSet (.type "set")) false (eval iter X.env) use) Qf X.xe s := by
  have hfree : ∀ y ∈ scope.names, y.2 = .free → ∃ c, X.env.cells.lookup y.1 = some c := fun y hy e => by
    rcases ok.free y hy e with k | k
    · exact I.ok.has _ (.inl k)
    · exact I.ok.has _ (.inr k)
  refine wpAny_comprehension_free (use := use) rfl hs (closure_ok hfree) ok.kind (fun y hy e => by rw [ok.uniq y hy, e])
    (thn (hi.run pins s σ H _ I h) fun xv s1 hx => thn hx fun itv s2 h2 => ?_)
  obtain ⟨it, fp, tn, J, H2, e, I2, T, st2, f2, q⟩ := h2
  subst e
  refine newSet_ok (newEnv_comp ?_)
  generalize hD : s2.heap.objs.size = D
  have hDn : H2 D = none := I2.hok.fresh (Nat.le_of_eq hD)
  obtain ⟨W, ⟨m0, w0⟩, turn⟩ := q D hDn
  -- the new list
  generalize hs3 : ({ s2 with heap := s2.heap.push { cls := .type "set", dict := none, data := .set #[] 0 (.fresh 0 0 (!X.w.params.followText "set-order")) } } : Shared) = s3
  have I3 : Inv X pins σ (upd H2 D (SetTO X.prog X.w D [])) s3 := by
    rw [← hs3]
    refine I2.laid (t' := s2.toks) (fun b o e => Heap.get?_push_of_some _ e) (Nat.le_of_eq hD) ?_
    rw [← hD]
    exact setTO_new (setTR_fresh (w := X.w) (P := X.prog) (Heap.get?_push_size _ rfl)).t0
  have h3 : s3.heap = s2.heap.push { cls := .type "set", dict := none, data := .set #[] 0 (.fresh 0 0 (!X.w.params.followText "set-order")) } := by rw [← hs3]
  have sz : ∀ b ∈ fp, b < s2.heap.objs.size := fun b hb => by
    obtain ⟨o, e, _⟩ := T.obj _ _ st2 b hb
    exact Heap.lt_size e
  have f3 : ∀ b ∈ fp, FpOk X pins (upd H2 D (SetTO X.prog X.w D [])) b ∧ b < s3.heap.objs.size := fun b hb => by
    have hlt := sz b hb
    refine ⟨⟨?_, (f2 b hb).2⟩, by rw [h3, Heap.size_push]; exact Nat.lt_succ_of_lt hlt⟩
    rw [upd_ne (by rw [← hD]; exact Nat.ne_of_lt hlt)]
    exact (f2 b hb).1
  have st3 : tn 0 s3.heap := T.keep _ _ _ st2 fun b _ o e => by rw [h3]; exact Heap.get?_push_of_some _ e
  have I4 := block_start I3 ok hN f3
  have pg := hg s3 (upd H2 D (SetTO X.prog X.w D [])) s3.heap.objs.size (cellsFrom (s3.heap.objs.size + 1) scope.names (cloFrom X.env.cells scope.names [])) fp
  have pt := ht s3 (upd H2 D (SetTO X.prog X.w D [])) s3.heap.objs.size (cellsFrom (s3.heap.objs.size + 1) scope.names (cloFrom X.env.cells scope.names [])) fp
  have pe := he s3 (upd H2 D (SetTO X.prog X.w D [])) s3.heap.objs.size (cellsFrom (s3.heap.objs.size + 1) scope.names (cloFrom X.env.cells scope.names [])) fp
  show codeAny _ _ (.compStart (.SetComp elt [⟨tg, iter, ifs, 0⟩] scope pos) 0 (.ref it) (.ref D) (compEnvC scope (cellsFrom (s3.heap.objs.size + 1) scope.names (cloFrom X.env.cells scope.names [])) s3.heap.objs.size X.env)) (compPost (model X.prog X.w) X.A X.xe use Qf (.ref D) s3.heap.objs.size) { s3 with heap := pushCells (s3.heap.push { cls := .type "dict", data := .dict #[] }) scope.names }
  have nfp : ∀ b ∈ fp, (upd H2 D (SetTO X.prog X.w D [])) b = none := fun b hb => (f3 b hb).1.1
  generalize hce : compEnvC scope (cellsFrom (s3.heap.objs.size + 1) scope.names (cloFrom X.env.cells scope.names [])) s3.heap.objs.size X.env = ce at I4 pg pt pe ⊢
  have cL : ce.locals = s3.heap.objs.size := by subst hce; rfl
  generalize hH3 : upd H2 D (SetTO X.prog X.w D []) = H3 at I3 I4 pg pt pe w0 nfp f3
  generalize hs4 : ({ s3 with heap := pushCells (s3.heap.push { cls := .type "dict", data := .dict #[] }) scope.names } : Shared) = s4 at I4 ⊢
  have st4 : tn 0 s4.heap := T.keep _ _ _ st3 fun b _ o e => by rw [← hs4]; exact pushCells_keeps _ _ _ _ (Heap.get?_push_of_some _ e)
  have stat : ∀ {σ' : L2.St} {H' : Hp} {s' : Shared}, Inv (X.blk s3 H3 scope ce fp) [] σ' H' s' → (∀ b ∈ fp, H' b = none) → ∀ b ∈ fp, FpOk (X.blk s3 H3 scope ce fp) [] H' b := fun {σ' H' s'} I' hn b hb =>
    ⟨hn b hb, (I'.ok.exf b hb).1, I'.ok.exfs b hb, .inl hb, fun x c e => (I'.ok.exf b hb).2 x c e, fun p hp => absurd (show p ∈ ([] : List (Addr × Obj)) ++ [] from hp) (by simp)⟩
  have loop : codeAny (model X.prog X.w) X.A (.compLoop (.SetComp elt [⟨tg, iter, ifs, 0⟩] scope pos) 0 (.ref it) (.ref D) ce) (compPost (model X.prog X.w) X.A X.xe use Qf (.ref D) s3.heap.objs.size) s4 := by
    refine compLoopS_any (fun n s' => ∃ i H', Inv (X.blk s3 H3 scope ce fp) [] (wipe σ (own.map (·.2))) H' s' ∧ tn i s'.heap ∧ (∀ b ∈ fp, H' b = none) ∧ W i n H') ?_ m0 ⟨0, H3, I4, st4, nfp, w0⟩
    rintro n s5 ⟨i, H5, I5, st5, n5, w5⟩
    rcases turn i n H5 w5 with ⟨stop, qq⟩ | ⟨go, Nx, hNx, step⟩
    · have td := T.done (X.blk s3 H3 scope ce fp) rfl rfl rfl hc i [] s5 _ H5 (fun _ _ => False) I5 (stat I5 n5) st5 stop
      refine thnF td fun r s6 ⟨hr, I6⟩ => ?_
      subst hr
      -- back in the def's context
      have I7 : Inv X pins σ H5 s6 := I3.call' (ch := fp) I6.os I6.base I6.hok I6.bare fun b hb => ⟨(f3 b hb).1.2.2.2.1, (f3 b hb).1.2.1, (f3 b hb).1.2.2.2.2.1, (f3 b hb).1.2.2.2.2.2⟩
      have nC : H5 s3.heap.objs.size = none := by
        have z : H5 ce.locals = none := I6.free
        rw [cL] at z
        exact z
      obtain ⟨m, hn, _⟩ := I6.loc
      have hn : s6.heap.Ns ce.locals m := hn
      rw [cL] at hn
      exact hRR D s3.heap.objs.size s6 m H5 I7 qq hn (I3.fpOk (Nat.le_refl _) nC)
    · have ti := T.item (X.blk s3 H3 scope ce fp) rfl rfl rfl hc i [] s5 _ H5 (fun _ _ => False) I5 (stat I5 n5) st5 go
      refine thnF ti fun r s6 ⟨u, hr, h6⟩ => ?_
      subst hr
      refine thnF h6 fun _ s7 ⟨x, H7, I7, r7, y7, st7, n7⟩ => ?_
      have I7' := I7.pinned (stat I7 n7) (T.obj _ _ st7)
      refine thnF (pg.run _ s7 _ H7 x u _ I7' r7 (step x H7 y7)) fun _ s8 ⟨σ8, H8, I8, hw8, q8⟩ => ?_
      refine thnF (pt.run _ s8 σ8 H8 _ I8 q8) fun b s9 ⟨H9, I9, q9⟩ => ?_
      -- the turn's end
      have fin : ∀ {s' : Shared} {H' : Hp}, Inv (X.blk s3 H3 scope ce fp) ([] ++ pinsAt fp s7.heap) σ8 H' s' → Nx H' → ∃ m, m < n ∧ ∃ i H', Inv (X.blk s3 H3 scope ce fp) [] (wipe σ (own.map (·.2))) H' s' ∧ tn i s'.heap ∧ (∀ b ∈ fp, H' b = none) ∧ W i m H' := fun {s' H'} I' nx => by
        obtain ⟨m', hm, w'⟩ := hNx H' nx
        have pin' : ∀ b ∈ fp, ∀ o, s7.heap.get? b = some o → s'.heap.get? b = some o ∧ H' b = none := fun b hb o e =>
          let z := I'.pin (b, o) (List.mem_append_right _ (List.mem_append_right _ (mem_pinsAt hb e)))
          ⟨z.1, z.2.1⟩
        have hl : (wipe σ (own.map (·.2))).length = σ8.length := by rw [← hw8, wipe_length]
        refine ⟨m', hm, i + 1, H', (I'.unpinned (pins := [])).weak hl (fun j v e => ?_), T.keep _ _ _ st7 fun b hb o e => (pin' b hb o e).1, fun b hb => ?_, w'⟩
        · rw [← hw8] at e
          exact (wipe_some e).1
        · obtain ⟨o, e, _⟩ := T.obj _ _ st7 b hb
          exact (pin' b hb o e).2
      cases b with
      | false =>
        simp only [Bool.false_eq_true, if_false] at q9 ⊢
        exact fin I9 q9
      | true =>
        simp only [if_true] at q9 ⊢
        refine thnF (pe.run _ s9 σ8 H9 _ I9 q9) fun z s10 ⟨yv, H10, I10, r10, cx, ck, L0, ey, hD10, hx10, hL10, hz10, nx⟩ => ?_
        subst ey
        cases (show z = Value.ref cx from r10)
        exact addT_ok (X := X.blk s3 H3 scope ce fp) I10 hD10 hL10 hx10 hz10 hu fun L1 s11 c1 c2 I11 => fin I11 (nx L1 c1 c2)
  exact codeAny_compStart_set loop (T.self X.A 0 _ _ _ st4 loop)
theorem pe_scT {elt tg iter : Expr} {ifs : List Expr} {scope : Scope} {own : List (PySem.Str × Nat)} {pos : Pos} {wi : TI} {g : TG} {tt : TT} {te : TE} (hu : X.A.units + 64 < cLine) (hc : X.calm = true) (hN : X.N.Nodup) (hi : PI X tg iter wi) (ok : BlkOk X.N X.env.scope scope own)
    (hg : ∀ (s : Shared) (H : Hp) (C : Addr) (cl : List (PySem.Str × Addr)) (fp : List Addr), PG (X.blk s H scope (compEnvC scope cl C X.env) fp) tg g) (ht : ∀ (s : Shared) (H : Hp) (C : Addr) (cl : List (PySem.Str × Addr)) (fp : List Addr), PTs (X.blk s H scope (compEnvC scope cl C X.env) fp) ifs tt)
    (he : ∀ (s : Shared) (H : Hp) (C : Addr) (cl : List (PySem.Str × Addr)) (fp : List Addr), PE (X.blk s H scope (compEnvC scope cl C X.env) fp) elt te) (hs : ∀ x, foldedSetIterable iter X.env x = pure x := by intro _; rfl) :
    PE X (.SetComp elt [⟨tg, iter, ifs, 0⟩] scope pos) (tScT X.K X.prog X.w wi g tt te (own.map (·.2))) := by
  refine ⟨fun pins s σ H Q I h => ?_⟩
  rw [eval_SetComp]
  refine scT_core hc hN I hi ok hg ht he hs hu h fun D C s' m H' I' q hn f => ⟨m, hn, fun h'' sb => ?_⟩
  obtain ⟨f0, f1, f2, f3, f4, f5⟩ := f
  exact ⟨.ref D, H', I'.turned (t' := s'.toks) (fun b o hb e => (sb.2 b hb).trans e) f0 f1 f3 f4 f5, rfl, q⟩
end
end Tp
set_option Elab.async false
set_option linter.all false
set_option maxRecDepth 100000
set_option maxHeartbeats 4000000
set_option pp.maxSteps 500
set_option pp.deepTerms false
namespace Tp
open PySem PySem.Spec PyProof.Rows L2
local macro_rules | `(tactic| walk_at "r") => `(tactic| with_reducible first
  | refine r_seq ?_ | refine r_set ?_ | refine r_ret ?_ | refine r_ifS ?_ | refine r_drop ?_ | refine r_next ?_ | refine r_nx ?_ | refine r_rt ?_
  | refine r_var rfl ?_ | refine r_c ?_ | refine r_op ?_ | refine r_test ?_ | refine r_B ?_ | refine r_exbl ?_ | refine r_exstr ?_ | refine r_exref ?_ | refine r_exint ?_ | refine r_ex2 ?_ | refine r_not ?_ | refine r_and ?_ | refine r_or ?_
  | refine r_andV ?_ | refine r_orV ?_ | refine r_notV ?_ | refine r_ifE ?_ | refine r_chain ?_ | refine r_asg ?_
  | refine r_cb ?_ | refine r_cons ?_ | refine r_nil ?_ | refine r_call ?_ | refine r_par ?_ | refine r_tup ?_ | refine r_lst ?_
  | refine r_lc ?_ | refine r_dget ?_ | refine r_din ?_ | refine r_dnotin ?_ | refine r_dput ?_ | refine r_sl ?_ | refine r_part ?_ | refine r_nopart ?_ | refine r_for ?_ | refine r_iList ?_ | refine r_iTup ?_ | refine r_iStr ?_ | refine r_iKeys ?_ | refine r_rng1 ?_ | refine r_dsetd ?_ | refine r_dnew ?_ | refine r_bm ?_ | refine r_fldaug ?_ | refine r_fldset ?_ | refine r_dz ?_ | refine r_lz ?_ | refine r_gSub ?_ | refine r_dc ?_ | refine r_sc ?_ | refine r_iEnumB ?_ | refine r_iZipB ?_ | refine r_iRevA ?_ | refine r_yes1 ?_ | refine r_gName ?_ | refine r_gCons ?_ | refine r_gNil ?_
  | refine r_I0 ?_ | refine r_eq_str ?_ | refine r_eq_int ?_ | refine r_ne_str ?_ | refine r_ne_int ?_
  | refine r_isi_int_int ?_ | refine r_isi_int_bool ?_ | refine r_isi_str_str ?_ | refine r_isi_int_tup ?_ | refine r_isi_str_tup ?_)
local macro_rules | `(tactic| walk_at "rr") => `(tactic| repeat walk_at "r")
local macro_rules | `(tactic| walk_at "len") => `(tactic| (intro vs H Q E h; repeat (first | (obtain ⟨e, _⟩ := h; rw [e]; rfl) | (obtain ⟨_, h⟩ := h))))
local macro_rules | `(tactic| walk_at "ni") => `(tactic| first | exact ni0 | exact ni1 (by assumption) | exact ni2 (by assumption) (by assumption) | exact ni3 (by assumption) (by assumption) (by assumption))
local macro_rules | `(tactic| walk_at "sub") => `(tactic| first | (intro b hb; cases hb; done) | (intro b hb; exact hb) | (intro b hb; simp at hb ⊢; simp [hb]; done) | (intro b hb; simp at hb ⊢; omega))
local macro_rules | `(tactic| walk_at "kp") => `(tactic| first | assumption | exact Kp.refl _ _ | (refine Kp.step (by assumption) (by walk_at "sub") ?_; walk_at "kp"))
local macro_rules | `(tactic| walk_at "at") => `(tactic| first | assumption | (refine Kp.atT (by assumption) ?_; walk_at "at") | (refine Kp.at (by assumption) ?_ (by walk_at "ni"); walk_at "at"))
local macro_rules | `(tactic| walk_at "td") => `(tactic| first | assumption | exact TD.int _ | exact TD.str _ | exact TDs.nil | (refine TDs.cons ?_ ?_ <;> walk_at "td") | (refine TD.mk (by assumption) ?_; walk_at "td") | (refine TD.mono (by assumption) ?_; walk_at "td") | (refine TDs.mono (by assumption) ?_; walk_at "td"))
local macro_rules | `(tactic| walk_at "b") => `(tactic| first | rfl | decide +kernel | (simp <;> omega) | (simp [*] <;> omega))
local macro_rules | `(tactic| walk_at "if") => `(tactic| first | refine r_yes (by walk_at "b") ?_ | refine r_no (by walk_at "b") ?_)
local macro_rules | `(tactic| walk_at "go") => `(tactic| repeat (first | walk_at "r" | walk_at "if"))
local macro_rules | `(tactic| walk_at "pf") => `(tactic| repeat (fail_if_success (with_reducible refine r_for ?_); walk_at "r"))
local macro_rules | `(tactic| walk_at "pt") => `(tactic| repeat (fail_if_success (with_reducible refine r_ifS ?_); walk_at "r"))
local macro_rules | `(tactic| walk_at "wn") => `(tactic| refine r_no (decide_eq_false (by simp only [Tree.word]; decide +kernel)) ?_)
local macro_rules | `(tactic| walk_at "nx") => `(tactic| (walk_at "wn"; walk_at "rr"))
section
variable {P : Program} {w : World} {K : PySem.W.Frag} {mg : Str → Option Value} {base : Heap}
/-- the table of arities at d -/
def ArAt (H : Hp) (d : Addr) (ar : Str → Option Nat) : Prop := ∃ kvs : List (Key × V), H d = some (.dK kvs) ∧ ∀ x, valV kvs (.inr x) = (ar x).map fun n => V.int (n : Nat)
theorem ArAt.mono {M : List Addr} {H H' : Hp} {d : Addr} {ar : Str → Option Nat} (k : Kp M H H') (n : d ∉ M) (h : ArAt H d ar) : ArAt H' d ar := by
  obtain ⟨kvs, h1, h2⟩ := h
  exact ⟨kvs, k.at h1 n, h2⟩
def sp_use_faults : Sp := fun vs H Q _ => ∃ (v nv : V) (d : Addr) (p : Pl) (x : Str) (as : List Tree) (near : List Str) (ar : Str → Option Nat), vs = [v, nv, .ref d] ∧ TD H v (tr (.use p x as)) ∧ TD H nv (.tuple (near.map PyData.str)) ∧ ArAt H d ar ∧ here ar near (.use p x as) ∧
  ∀ l H', Kp [] H H' → H l = none → H' l = some (.lst []) → Q (.ref l) H'
theorem sc_use_faults : FnScope ["tree", "near", "table", "name", "args", "due"] ["tree", "near", "table"] (defScope s_use_faults) := ⟨rfl, rfl, rfl, by decide +kernel, rfl, by decide +kernel, by decide +kernel⟩
theorem c_use_faults (T : Txt K mg) : Cal P w K mg base 1 "use_faults" ["tree", "near", "table"] sp_use_faults := by
  obtain ⟨fd, F⟩ := T.F_use_faults
  refine mk_cal F T.g_use_faults (fun _ _ _ _ _ _ us hl => match us, hl with | [_, _, _], _ => rfl) (mk_ok F sc_use_faults (by walk_at "len") fun cdv A outer s H vs Q E hr h => ?_)
  obtain ⟨v, nv, d, p, x, as, near, ar, rfl, hv, hn, ⟨kvs, hd, ha⟩, hh, q⟩ := h
  refine ⟨_, (pss_cons (ps_par (i := 3) (j := 4) (by rfl) sc_use_faults.nd rfl rfl (by decide) rfl rfl (pa_cons (pe_ix ix_seq (pv 0) pe_int (fun _ _ => rfl)) (pa_cons (pe_ix ix_seq (pv 0) pe_int (fun _ _ => rfl)) pa_nil)) (by rfl)) (pss_cons (ps_if (PW.pt (pw_and (pt_cmpR op_notIn_seq (pv 3) (pv 1) rfl) (pw_and1 (pt_cmp (pc_dnotin (hu_of hr) (pv 3) (pv 2)))))) (pss_one (ps_ret (pe_lstK (pa_cons (pe_tupK (pa_cons (pe_ix ix_seq (pv 0) pe_int (fun _ _ => rfl)) (pa_cons pe_str (pa_cons (pv 3) pa_nil)))) pa_nil)))) pss_nil) (pss_cons (ps_set (i := 5) sc_use_faults.nd rfl (by first | exact Or.inl rfl | exact Or.inr rfl) (pe_ifExp (pt_cmpR op_in_seq (pv 3) (pv 1) rfl) pe_int (pe_dget (hu_of hr) (pv 2) (pv 3) (fun _ _ => rfl)))) (pss_one (ps_ret (pe_ifExp (pt_cmpR (op_eqX hr) (pe_callB call_lenX (by rfl) T.b_len PySem.boot_len (pa_cons (pv 4) pa_nil)) (pv 5) (nomark _)) (pe_lstK pa_nil) (pe_lstK (pa_cons (pe_tupK (pa_cons (pe_ix ix_seq (pv 0) pe_int (fun _ _ => rfl)) (pa_cons pe_str (pa_cons (pv 3) pa_nil)))) pa_nil)))))))), ?_⟩
  rw [tr_use] at hv
  walk_at "go"
  refine r_ix_str hv 2 rfl ?_
  walk_at "go"
  refine r_ix hv 3 rfl fun va h3 => ?_
  walk_at "go"
  refine r_nin_td hn ?_
  walk_at "rr"
  rcases hh with ⟨h1, h2⟩ | ⟨h1, h2⟩
  · refine r_no (by simp [h1]) ?_
    walk_at "go"
    refine r_in_td hn ?_
    walk_at "rr"
    refine r_yes (by simp [h1]) ?_
    walk_at "go"
    refine r_len_td h3 ?_
    subst h2
    walk_at "go"
    exact ⟨by simp, fun l H1 k1 n1 e1 => q l H1 k1 n1 e1⟩
  · refine r_yes (by simp [h1]) ?_
    walk_at "rr"
    refine r_din_s hd ?_
    rw [ha, h2]
    walk_at "go"
    refine r_in_td hn ?_
    walk_at "rr"
    refine r_no (by simp [h1]) ?_
    walk_at "rr"
    refine r_dget_s hd (by rw [ha, h2]; rfl) ?_
    walk_at "go"
    refine r_len_td h3 ?_
    walk_at "rr"
    refine r_yes (by simp) ?_
    walk_at "go"
    exact ⟨by simp, fun l H1 k1 n1 e1 => q l H1 k1 n1 e1⟩

def sp_tree_faults (n : Nat) : Sp := fun vs H Q _ => ∃ (v nv : V) (d : Addr) (t : Tree) (near : List Str) (ar : Str → Option Nat), vs = [v, nv, .ref d] ∧ TD H v (tr t) ∧ TD H nv (.tuple (near.map PyData.str)) ∧ ArAt H d ar ∧ Dep n t ∧ AllT okN t ∧ Snd ar near t ∧ near.length + 2 * n ≤ 900 ∧
  ∀ l H', Kp [] H H' → H l = none → H' l = some (.lst []) → Q (.ref l) H'
theorem sc_tree_faults : FnScope ["tree", "near", "table", "found", "one", "names"] ["tree", "near", "table"] (defScope s_tree_faults) := ⟨rfl, rfl, rfl, by decide +kernel, rfl, by decide +kernel, by decide +kernel⟩
theorem c_tree_faults0 (T : Txt K mg) : Cal P w K mg base 3 "tree_faults" ["tree", "near", "table"] (sp_tree_faults 0) := by
  obtain ⟨fd, F⟩ := T.F_tree_faults
  have no : ∀ vs H Q E, ¬ sp_tree_faults 0 vs H Q E := fun vs H Q E h => by
    obtain ⟨v, nv, dd, t, near, ar, _, _, _, _, d, _⟩ := h
    cases d
  exact mk_cal F T.g_tree_faults (fun _ _ _ _ _ _ us hl => match us, hl with | [_, _, _], _ => rfl) ⟨fun vs H Q E h => absurd h (no vs H Q E), fun A outer s H args us vs Q E _ _ _ _ h => absurd h (no vs H Q E)⟩
theorem c_tree_faults1 {n : Nat} (T : Txt K mg) (C_use_faults : Cal P w K mg base 1 "use_faults" ["tree", "near", "table"] sp_use_faults) (C_scoped : Cal P w K mg base 2 "scoped" ["tree", "near"] sp_scoped) (C_tree_faults : Cal P w K mg base (n + 3) "tree_faults" ["tree", "near", "table"] (sp_tree_faults n)) : Cal P w K mg base (n + 4) "tree_faults" ["tree", "near", "table"] (sp_tree_faults (n + 1)) := by
  obtain ⟨fd, F⟩ := T.F_tree_faults
  refine mk_cal F T.g_tree_faults (fun _ _ _ _ _ _ us hl => match us, hl with | [_, _, _], _ => rfl) (mk_ok F sc_tree_faults (by walk_at "len") fun cdv A outer s H vs Q E hr h => ?_)
  obtain ⟨v, nv, d, t, near, ar, rfl, hv, hn, ha, hdp, ok, snd, hln, q⟩ := h
  refine ⟨_, (pss_cons (ps_set (i := 3) sc_tree_faults.nd rfl (by first | exact Or.inl rfl | exact Or.inr rfl) (pe_lstK pa_nil)) (pss_cons (ps_if (pt_cmpR (op_eqX hr) (pe_ix ix_seq (pv 0) pe_int (fun _ _ => rfl)) pe_str (nomark _)) (pss_one (ps_set (i := 3) sc_tree_faults.nd rfl (by first | exact Or.inl rfl | exact Or.inr rfl) (pe_cal C_use_faults hr (pa_cons (pv 0) (pa_cons (pv 1) (pa_cons (pv 2) pa_nil)))))) (pss_one (ps_if (PW.pt (pw_and (pt_cmpR (op_eqX hr) (pe_ix ix_seq (pv 0) pe_int (fun _ _ => rfl)) pe_str (nomark _)) (pw_and1 (pt_cmpR (op_eqX hr) (pe_ix ix_seq (pv 0) pe_int (fun _ _ => rfl)) (pe_ix ix_seq (pv 0) pe_int (fun _ _ => rfl)) (nomark _))))) (pss_one (ps_set (i := 3) sc_tree_faults.nd rfl (by first | exact Or.inl rfl | exact Or.inr rfl) (pe_lstK (pa_cons (pe_tupK (pa_cons (pe_ix ix_seq (pv 0) pe_int (fun _ _ => rfl)) (pa_cons pe_str (pa_cons (pe_ix ix_seq (pv 0) pe_int (fun _ _ => rfl)) pa_nil)))) pa_nil)))) pss_nil))) (pss_cons (ps_for PassesOwn.never rfl (pi_list (pe_cal C_scoped hr (pa_cons (pv 0) (pa_cons (pv 1) pa_nil)))) (pg_tup rfl (pgs_cons (pg_name (i := 4) sc_tree_faults.nd rfl (by first | exact Or.inl rfl | exact Or.inr rfl)) (pgs_cons (pg_name (i := 5) sc_tree_faults.nd rfl (by first | exact Or.inl rfl | exact Or.inr rfl)) pgs_nil))) (pss_one (ps_set (i := 3) sc_tree_faults.nd rfl (by first | exact Or.inl rfl | exact Or.inr rfl) (pe_op op_catK (pv 3) (pe_cal C_tree_faults hr (pa_cons (pv 4) (pa_cons (pv 5) (pa_cons (pv 2) pa_nil)))))))) (pss_one (ps_ret (pv 3)))))), ?_⟩
  have hv2 := hv
  rw [tr_eq] at hv2
  have split : (∃ p x as, t = .use p x as) ∨ (∃ p a e x y b, t = .cs p a e x y b) ∨ (¬ t.word = "use" ∧ ¬ t.word = "case") := by
    cases t <;> first | exact .inl ⟨_, _, _, rfl⟩ | exact .inr (.inl ⟨_, _, _, _, _, _, rfl⟩) | exact .inr (.inr (by simp only [Tree.word]; decide +kernel))
  walk_at "rr"
  refine ⟨by simp, fun l0 H0 k0 n0 e0 => ?_⟩
  walk_at "rr"
  refine r_ix_str (hv2.mono k0) 0 rfl ?_
  walk_at "rr"
  rcases split with ⟨p, x, as, rfl⟩ | ⟨p, a, e, x, y, b, rfl⟩ | ⟨w1, w2⟩
  refine r_yes (by rfl) ?_
  walk_at "rr"
  refine ⟨v, nv, d, p, x, as, near, ar, rfl, hv.mono k0, hn.mono k0, ha.mono k0 ni0, snd.here, fun l1 H1 k1 n1 e1 => ?_⟩
  replace k1 := k0.trans k1
  replace n1 := k0.free n1
  walk_at "rr"
  rotate_left
  refine r_no (by rfl) ?_
  walk_at "rr"
  refine r_ix_str (hv2.mono k0) 0 rfl ?_
  walk_at "rr"
  refine r_yes (by rfl) ?_
  walk_at "rr"
  refine r_ix_str (hv2.mono k0) 4 rfl ?_
  walk_at "rr"
  refine r_ix_str (hv2.mono k0) 5 rfl ?_
  walk_at "rr"
  refine r_no (decide_eq_false snd.here) ?_
  walk_at "rr"
  have k1 := k0
  have n1 := n0
  have e1 := e0
  rotate_left
  refine r_no (decide_eq_false w1) ?_
  walk_at "rr"
  refine r_ix_str (hv2.mono k0) 0 rfl ?_
  walk_at "rr"
  refine r_no (decide_eq_false w2) ?_
  refine r_no rfl ?_
  walk_at "rr"
  have k1 := k0
  have n1 := n0
  have e1 := e0
  rotate_left
  all_goals
    refine ⟨v, nv, _, near, rfl, hv.mono k1, hn.mono k1, by omega, ok.here, fun l ys H2 k2 n2 e2 t2 => ?_⟩
    walk_at "r"
    refine ⟨⟨_, SqL.of e2⟩, ?_⟩
    have few := scop_few (near := near) ok.here
    have hlen := t2.1
    rw [List.length_map] at hlen
    refine forW (walk_list (xs := ys)) (fun _ σ H' => ∃ l3 o4 o5, σ = [some v, some nv, some (.ref d), some (.ref l3), o4, o5] ∧ Kp [] H H' ∧ Kp [] H2 H' ∧ H l3 = none ∧ H' l3 = some (.lst [])) ⟨_, none, none, rfl, k1.trans k2, Kp.refl _ _, n1, k2.at e1 ni0⟩ ?_ ?_ ?_
    · rintro i σ H3 _ ⟨_, _, _, _, k, k', _, _⟩
      exact SqL.of (k'.at e2 ni0)
    · rintro i x σ H3 H4 hi ⟨l3, o4, o5, rfl, k, k', n3, e3⟩ ⟨rfl, hy⟩
      obtain ⟨s, hs, his, hts⟩ := t2.map_get hy
      obtain ⟨a, xs, ea, hxa, hxs⟩ := (hts.mono k').inv
      obtain ⟨z1, w1, rfl, g1, hxs⟩ := hxs.cons_inv
      obtain ⟨z2, w2, rfl, g2, hxs⟩ := hxs.cons_inv
      cases hxs.nil_inv
      obtain ⟨sb, sl⟩ := scop_sub hs
      refine r_gTup ea hxa rfl ?_
      walk_at "rr"
      refine ⟨z1, z2, d, s.1, s.2, ar, rfl, g1, g2, ha.mono k ni0, hdp.sub sb, ok.sub sb, snd.sub hs, by omega, fun l5 H5 k5 n5 e5 => ?_⟩
      refine ⟨l3, l5, [], [], rfl, rfl, k5.at e3 ni0, e5, by simp, fun l6 H6 k6 n6 e6 => ?_⟩
      walk_at "rr"
      exact ⟨l6, _, _, rfl, k.trans (k5.trans k6), k'.trans (k5.trans k6), k.free (k5.free n6), e6⟩
    · rintro σ H3 ⟨l3, o4, o5, rfl, k, k', n3, e3⟩
      walk_at "rr"
      exact q l3 H3 k n3 e3
theorem c_tree_faults (T : Txt K mg) (C_use_faults : Cal P w K mg base 1 "use_faults" ["tree", "near", "table"] sp_use_faults) (C_scoped : Cal P w K mg base 2 "scoped" ["tree", "near"] sp_scoped) : ∀ n, Cal P w K mg base (n + 3) "tree_faults" ["tree", "near", "table"] (sp_tree_faults n)
  | 0 => c_tree_faults0 T
  | n + 1 => c_tree_faults1 T C_use_faults C_scoped (c_tree_faults T C_use_faults C_scoped n)
end
end Tp
set_option Elab.async false
set_option linter.all false
set_option maxRecDepth 100000
set_option maxHeartbeats 4000000
namespace Tp
open PySem PySem.Spec PyProof.Rows L2 PpSet

theorem YPair.use {f g : Nat → Option V} {i : Nat} {H H' : Hp} {v : V} (y : YPair f g i H v H') : ∃ T a b, v = .ref T ∧ H T = none ∧ Kp [] H H' ∧ H' T = some (.tup [a, b]) ∧ f i = some a ∧ g i = some b := by
  obtain ⟨T, a, b, h1, h2, h3, h4, h5⟩ := y
  subst h3
  exact ⟨T, a, b, h1, h2, Kp.new h2, upd_same, h4, h5⟩
theorem walk_revT {K : PySem.W.Frag} {a : Addr} {xs : List V} : Walk (RT.ItvT K a xs.length) xs.length (fun H => SqT K H a xs) (fun i H x H' => H' = H ∧ xs[xs.length - 1 - i]? = some x) :=
  ⟨fun i _ hi q => ⟨hi, xs, xs[xs.length - 1 - i]'(by omega), q, by simp [show xs.length - 1 - i < xs.length by omega]⟩, fun _ _ => Nat.le_refl _, fun _ _ _ _ _ q y => ⟨y.1, y.2 xs q⟩⟩

/-! ### a dict comprehension over a walk -/
def DcB (J : It) (g : TG) (tt : TT) (tk tv : TE) (vs : List Nat) (σ : L2.St) (H1 : Hp) (Q : VK) : Prop := ∀ D, H1 D = none → ∃ W : Nat → Nat → Hp → Prop, (∃ m, W 0 m (upd H1 D (.dK []))) ∧ ∀ i m H, W i m H →
  (J.stop i H ∧ Q (.ref D) H) ∨ (J.go i H ∧ ∃ Nx : Hp → Prop, (∀ H', Nx H' → ∃ m', m' < m ∧ W (i + 1) m' H') ∧ ∀ x H', J.yld i H x H' → g x (wipe σ vs) H' fun σ2 H2 => wipe σ2 vs = wipe σ vs ∧ tt σ2 H2 fun b H3 =>
    if b = true then tk σ2 H3 fun y H4 => tv σ2 H4 fun z H5 => ∃ kvs k, y = kV k ∧ H5 D = some (.dK kvs) ∧ kvs.length < sizeLine ∧ Nx (upd H5 D (.dK (putK kvs k z))) else Nx H3)
def ScB (K : PySem.W.Frag) (P : Program) (w : World) (J : It) (g : TG) (tt : TT) (te : TE) (vs : List Nat) (σ : L2.St) (H1 : Hp) (Q : VK) : Prop := ∀ D, H1 D = none → ∃ W : Nat → Nat → Hp → Prop, (∃ m, W 0 m (upd H1 D (SetTO P w D []))) ∧ ∀ i m H, W i m H →
  (J.stop i H ∧ Q (.ref D) H) ∨ (J.go i H ∧ ∃ Nx : Hp → Prop, (∀ H', Nx H' → ∃ m', m' < m ∧ W (i + 1) m' H') ∧ ∀ x H', J.yld i H x H' → g x (wipe σ vs) H' fun σ2 H2 => wipe σ2 vs = wipe σ vs ∧ tt σ2 H2 fun b H3 =>
    if b = true then te σ2 H3 fun y H4 => ∃ (x : Addr) (k : List Int) (L : List (Addr × List Int)), y = .ref x ∧ H4 D = some (SetTO P w D L) ∧ SqT K H4 x (k.map V.int) ∧ (∀ p ∈ L, SqT K H4 p.1 (p.2.map V.int)) ∧ L.length + 1 < 64 ∧
      ∀ L', (k ∈ L.map (·.2) → L' = L) → (k ∉ L.map (·.2) → L'.Perm ((x, k) :: L)) → Nx (upd H4 D (SetTO P w D L')) else Nx H3)
section
variable {P : Program} {w : World} {K : PySem.W.Frag} {σ : L2.St} {H H1 H4 : Hp} {Q : VK} {te tk tv tl : TE} {wi : TI} {g : TG} {tt : TT} {vs : List Nat} {J : It} {n : Nat} {G : Hp → Prop} {Y : Nat → Hp → V → Hp → Prop} {R' : It → Hp → Prop}
theorem r_dc (h : wi σ H fun J H1 => DcB J g tt tk tv vs σ H1 Q) : tDc wi g tt tk tv vs σ H Q := h
theorem r_sc (h : wi σ H fun J H1 => ScB K P w J g tt te vs σ H1 Q) : tScT K P w wi g tt te vs σ H Q := h
/-- what holds between two turns of a dict comprehension -/
def DcI (R : Nat → List (Key × V) → Hp → Prop) (H1 : Hp) (D : Addr) (i : Nat) (H : Hp) : Prop := ∃ kvs, kvs.length ≤ i ∧ Kp [] H1 H ∧ H D = some (.dK kvs) ∧ R i kvs H
theorem dc_fin {Rr : Nat → List (Key × V) → Hp → Prop} {D : Addr} {i : Nat} {kvs : List (Key × V)} {y z : V} {k : Key} (hD : H1 D = none) (hi : i < 100000) (hl : kvs.length ≤ i) (kp : Kp [] H1 H4) (h4 : H4 D = some (.dK kvs)) (hy : y = kV k)
    (r : ∀ H5, Kp [D] H4 H5 → Rr (i + 1) (putK kvs k z) H5) :
    ∃ kvs k, y = kV k ∧ H4 D = some (.dK kvs) ∧ kvs.length < sizeLine ∧ DcI Rr H1 D (i + 1) (upd H4 D (.dK (putK kvs k z))) := by
  refine ⟨kvs, k, hy, h4, Nat.lt_of_lt_of_le (Nat.lt_of_le_of_lt hl hi) (by decide), putK kvs k z, ?_, kp.upd_new hD, upd_same, r _ (Kp.wr (by simp) h4 rfl)⟩
  have := length_putK kvs k z
  omega
theorem dcW (wk : Walk J n G Y) (hn : n ≤ 100000) (R : Nat → List (Key × V) → Hp → Prop) (hG : ∀ H, Kp [] H1 H → G H)
    (h0 : ∀ D H2, H1 D = none → Kp [] H1 H2 → R 0 [] H2)
    (hs : ∀ i x D kvs H H', i < n → H1 D = none → kvs.length ≤ i → Kp [] H1 H → H D = some (.dK kvs) → R i kvs H → Y i H x H' → g x (wipe σ vs) H' fun σ2 H2 => wipe σ2 vs = wipe σ vs ∧ tt σ2 H2 fun b H3 =>
      if b = true then tk σ2 H3 fun y H4 => tv σ2 H4 fun z H5 => ∃ kvs k, y = kV k ∧ H5 D = some (.dK kvs) ∧ kvs.length < sizeLine ∧ DcI R H1 D (i + 1) (upd H5 D (.dK (putK kvs k z))) else DcI R H1 D (i + 1) H3)
    (hd : ∀ D kvs H, H1 D = none → kvs.length ≤ n → Kp [] H1 H → H D = some (.dK kvs) → R n kvs H → Q (.ref D) H) : DcB J g tt tk tv vs σ H1 Q := by
  intro D hD
  refine ⟨fun i m H => m = n - i ∧ i ≤ n ∧ DcI R H1 D i H, ⟨n, by simp, Nat.zero_le _, [], Nat.le_refl _, Kp.new hD, upd_same, h0 D _ hD (Kp.new hD)⟩, ?_⟩
  rintro i m H ⟨rfl, hi, p⟩
  have q : G H := by
    obtain ⟨acc, _, k, _⟩ := p
    exact hG H k
  by_cases hlt : i < n
  · refine .inr ⟨wk.goes i H hlt q, DcI R H1 D (i + 1), fun H' p' => ⟨n - (i + 1), by omega, rfl, hlt, p'⟩, fun x H' y => ?_⟩
    obtain ⟨acc, hl, k, h1, r⟩ := p
    exact hs i x D acc H H' hlt hD hl k h1 r (wk.yields i H x H' hlt q y)
  · have e : i = n := by omega
    subst e
    obtain ⟨acc, hl, k, h1, r⟩ := p
    exact .inl ⟨wk.stops H q, hd D acc H hD hl k h1 r⟩

/-! ### sets of places -/
def keyP (q : Pl) : List Int := [q.1, q.2]
theorem keyP_inj {p q : Pl} (h : keyP p = keyP q) : p = q := by
  obtain ⟨a, b⟩ := p
  obtain ⟨c, d⟩ := q
  simp [keyP] at h
  simp [h]
/-- at D the set of the places S -/
def SetP (P : Program) (w : World) (H : Hp) (D : Addr) (S : List Pl) : Prop := ∃ L : List (Addr × List Int), H D = some (SetTO P w D L) ∧ (∀ p ∈ L, ∃ q ∈ S, H p.1 = some (.tup [.int q.1, .int q.2]) ∧ p.2 = keyP q) ∧ (∀ q ∈ S, keyP q ∈ L.map (·.2)) ∧ (L.map (·.2)).Nodup
theorem SetP.mono {S : List Pl} {D : Addr} {M : List Addr} {H' : Hp} (k : Kp M H H') (n : D ∉ M) (h : SetP P w H D S) : SetP P w H' D S := by
  obtain ⟨L, h1, h2, h3, h4⟩ := h
  refine ⟨L, k.at h1 n, fun p hp => ?_, h3, h4⟩
  obtain ⟨q, hq, hqq, e⟩ := h2 p hp
  exact ⟨q, hq, k.atT hqq, e⟩
theorem nodup_len {α : Type} [DecidableEq α] : ∀ (l D : List α), l.Nodup → (∀ x ∈ l, x ∈ D) → l.length ≤ D.length
  | [], _, _, _ => Nat.zero_le _
  | x :: l, D, hn, hs => by
    obtain ⟨h1, h2⟩ := List.nodup_cons.mp hn
    have hx : x ∈ D := hs x List.mem_cons_self
    have ih := nodup_len l (D.erase x) h2 fun y hy => by
      have hne : y ≠ x := fun e => h1 (e ▸ hy)
      exact (List.mem_erase_of_ne hne).2 (hs y (List.mem_cons_of_mem _ hy))
    have e := List.length_erase_of_mem hx
    have hp : 0 < D.length := List.length_pos_of_mem hx
    rw [List.length_cons]
    omega
theorem TD.pl_inv {v : V} {q : Pl} (h : TD H v (pl q)) : ∃ x, v = .ref x ∧ H x = some (.tup [.int q.1, .int q.2]) := by
  obtain ⟨a, xs, rfl, ha, t⟩ := h.inv
  obtain ⟨y, ys, rfl, h1, t⟩ := t.cons_inv
  obtain ⟨z, zs, rfl, h2, t⟩ := t.cons_inv
  cases t.nil_inv
  rw [h1.inv_int, h2.inv_int] at ha
  exact ⟨a, rfl, ha⟩
def ScI (P : Program) (w : World) (R : Nat → List Pl → Hp → Prop) (U : List Pl) (H1 : Hp) (D : Addr) (i : Nat) (H : Hp) : Prop := ∃ S, SetP P w H D S ∧ (∀ q ∈ S, q ∈ U) ∧ Kp [] H1 H ∧ R i S H
/-- the item goes into the set -/
theorem sc_fin {Rr : Nat → List Pl → Hp → Prop} {U S : List Pl} {D : Addr} {i : Nat} {y : V} {q : Pl} (hU : U.length ≤ 62) (hD : H1 D = none) (sp : SetP P w H4 D S) (su : ∀ q ∈ S, q ∈ U) (kp : Kp [] H1 H4) (hy : TD H4 y (pl q)) (hq : q ∈ U)
    (r : ∀ H5, Kp [D] H4 H5 → Rr (i + 1) (S ++ [q]) H5) :
    ∃ (x : Addr) (k : List Int) (L : List (Addr × List Int)), y = .ref x ∧ H4 D = some (SetTO P w D L) ∧ SqT K H4 x (k.map V.int) ∧ (∀ p ∈ L, SqT K H4 p.1 (p.2.map V.int)) ∧ L.length + 1 < 64 ∧
      ∀ L', (k ∈ L.map (·.2) → L' = L) → (k ∉ L.map (·.2) → L'.Perm ((x, k) :: L)) → ScI P w Rr U H1 D (i + 1) (upd H4 D (SetTO P w D L')) := by
  obtain ⟨x, rfl, hx⟩ := hy.pl_inv
  obtain ⟨L, h1, h2, h3, h4⟩ := sp
  refine ⟨x, keyP q, L, rfl, h1, SqT.of hx, fun p hp => ?_, ?_, fun L' c1 c2 => ?_⟩
  · obtain ⟨q', _, hh, e⟩ := h2 p hp
    rw [e]
    exact SqT.of hh
  · have := nodup_len (L.map (·.2)) (U.map keyP) h4 fun z hz => by
      obtain ⟨p, hp, rfl⟩ := List.mem_map.mp hz
      obtain ⟨q', hq', _, e⟩ := h2 p hp
      rw [e]
      exact List.mem_map_of_mem (su q' hq')
    simp only [List.length_map] at this
    omega
  · have kw : Kp [D] H4 (upd H4 D (SetTO P w D L')) := Kp.wr (by simp) h1 rfl
    refine ⟨S ++ [q], ⟨L', upd_same, ?_, ?_, ?_⟩, fun z hz => ?_, kp.upd_new hD, r _ kw⟩
    · intro p hp
      by_cases hk : keyP q ∈ L.map (·.2)
      · rw [c1 hk] at hp
        obtain ⟨q', a, b, c⟩ := h2 p hp
        exact ⟨q', List.mem_append_left _ a, kw.atT b, c⟩
      · rcases List.mem_cons.mp ((c2 hk).mem_iff.mp hp) with z | z
        · subst z
          exact ⟨q, by simp, kw.atT hx, rfl⟩
        · obtain ⟨q', a, b, c⟩ := h2 p z
          exact ⟨q', List.mem_append_left _ a, kw.atT b, c⟩
    · intro z hz
      by_cases hk : keyP q ∈ L.map (·.2)
      · rw [c1 hk]
        rcases List.mem_append.mp hz with hz | hz
        · exact h3 z hz
        · rw [List.mem_singleton.mp hz]
          exact hk
      · have pm := (c2 hk).map (·.2)
        refine pm.mem_iff.mpr ?_
        rcases List.mem_append.mp hz with hz | hz
        · exact List.mem_cons_of_mem _ (h3 z hz)
        · rw [List.mem_singleton.mp hz]
          exact List.mem_cons_self
    · by_cases hk : keyP q ∈ L.map (·.2)
      · rw [c1 hk]
        exact h4
      · have pm := (c2 hk).map (·.2)
        exact pm.nodup_iff.mpr (List.nodup_cons.mpr ⟨hk, h4⟩)
    · rcases List.mem_append.mp hz with hz | hz
      · exact su z hz
      · rw [List.mem_singleton.mp hz]
        exact hq
theorem scW (wk : Walk J n G Y) (U : List Pl) (R : Nat → List Pl → Hp → Prop) (hG : ∀ H, Kp [] H1 H → G H)
    (h0 : ∀ D H2, H1 D = none → Kp [] H1 H2 → R 0 [] H2)
    (hs : ∀ i x D S H H', i < n → H1 D = none → SetP P w H D S → (∀ q ∈ S, q ∈ U) → Kp [] H1 H → R i S H → Y i H x H' → g x (wipe σ vs) H' fun σ2 H2 => wipe σ2 vs = wipe σ vs ∧ tt σ2 H2 fun b H3 =>
      if b = true then te σ2 H3 fun y H4 => ∃ (x : Addr) (k : List Int) (L : List (Addr × List Int)), y = .ref x ∧ H4 D = some (SetTO P w D L) ∧ SqT K H4 x (k.map V.int) ∧ (∀ p ∈ L, SqT K H4 p.1 (p.2.map V.int)) ∧ L.length + 1 < 64 ∧
        ∀ L', (k ∈ L.map (·.2) → L' = L) → (k ∉ L.map (·.2) → L'.Perm ((x, k) :: L)) → ScI P w R U H1 D (i + 1) (upd H4 D (SetTO P w D L')) else ScI P w R U H1 D (i + 1) H3)
    (hd : ∀ D S H, H1 D = none → (∀ q ∈ S, q ∈ U) → Kp [] H1 H → SetP P w H D S → R n S H → Q (.ref D) H) : ScB K P w J g tt te vs σ H1 Q := by
  intro D hD
  refine ⟨fun i m H => m = n - i ∧ i ≤ n ∧ ScI P w R U H1 D i H, ⟨n, by simp, Nat.zero_le _, [], ⟨[], upd_same, by simp, by simp, by simp⟩, by simp, Kp.new hD, h0 D _ hD (Kp.new hD)⟩, ?_⟩
  rintro i m H ⟨rfl, hi, p⟩
  have q : G H := by
    obtain ⟨acc, _, _, k, _⟩ := p
    exact hG H k
  by_cases hlt : i < n
  · refine .inr ⟨wk.goes i H hlt q, ScI P w R U H1 D (i + 1), fun H' p' => ⟨n - (i + 1), by omega, rfl, hlt, p'⟩, fun x H' y => ?_⟩
    obtain ⟨acc, hl, hu, k, r⟩ := p
    exact hs i x D acc H H' hlt hD hl hu k r (wk.yields i H x H' hlt q y)
  · have e : i = n := by omega
    subst e
    obtain ⟨acc, hl, hu, k, r⟩ := p
    exact .inl ⟨wk.stops H q, hd D acc H hD hu k hl r⟩
end
/-- the order of places -/
def ltP (p q : Pl) : Prop := p.1 * 10000 + p.2 < q.1 * 10000 + q.2
theorem code_keyP (q : Pl) : TS.code 10000 (keyP q) = q.1 * 10000 + q.2 := by
  have e1 : (10000 : Int) ^ 1 = 10000 := by decide
  have e0 : (10000 : Int) ^ 0 = 1 := by decide
  show q.1 * 10000 ^ 1 + (q.2 * 10000 ^ 0 + 0) = _
  rw [e1, e0, Int.mul_one, Int.add_zero]
/-- sorted(..) of a set of places -/
def rSortedP (P : Program) (w : World) : List V → Hp → VK → Prop := fun vs H Q => ∃ (a : Addr) (S : List Pl), vs = [V.ref a] ∧ SetP P w H a S ∧ (∀ q ∈ S, okPl q) ∧
  ∀ l ys (ps : List Pl) H2, Kp [] H H2 → H l = none → H2 l = some (.lst ys) → TDs H2 ys (ps.map pl) → (∀ q, q ∈ ps ↔ q ∈ S) → ps.Pairwise ltP → Q (.ref l) H2
theorem ordL : ∀ (L : List (Addr × List Int)) (S : List Pl) (H : Hp), (∀ p ∈ L, ∃ q ∈ S, H p.1 = some (.tup [.int q.1, .int q.2]) ∧ p.2 = keyP q) → ∃ ps : List Pl, L.map (·.2) = ps.map keyP ∧ (∀ q ∈ ps, q ∈ S) ∧ TDs H (L.map fun q => V.ref q.1) (ps.map pl)
  | [], S, H, _ => ⟨[], rfl, by simp, .nil⟩
  | p :: L, S, H, h => by
    obtain ⟨q, hq, h1, h2⟩ := h p List.mem_cons_self
    obtain ⟨ps, e, hs, t⟩ := ordL L S H fun r hr => h r (List.mem_cons_of_mem _ hr)
    refine ⟨q :: ps, ?_, ?_, ?_⟩
    · rw [List.map_cons, List.map_cons, e, h2]
    · intro z hz
      rcases List.mem_cons.mp hz with hz | hz
      · rw [hz]
        exact hq
      · exact hs z hz
    · exact .cons (.mk h1 (.cons (.int _) (.cons (.int _) .nil))) t
theorem cr_sortedP {X : Cx} (hc : X.calm = true) : CallR X (.builtin "sorted") (rSortedP X.prog X.w) := CallR.imp (cr_sortedT hc) fun vs H Q h => by
  obtain ⟨a, S, rfl, ⟨L, h1, h2, h3, h4⟩, ok, q⟩ := h
  refine ⟨a, L, 2, 10000, rfl, h1, fun p hp => ?_, by decide, fun p hp => ?_, fun L' p pm nd few pw hn => ?_⟩
  · obtain ⟨q', _, hh, e⟩ := h2 p hp
    rw [e]
    exact SqT.of hh
  · obtain ⟨q', hq', hh, e⟩ := h2 p hp
    rw [e]
    refine ⟨rfl, fun m hm => ?_⟩
    obtain ⟨o1, o2, o3, o4⟩ := ok q' hq'
    simp [keyP] at hm
    rcases hm with hm | hm
    · subst hm
      omega
    · subst hm
      omega
  · obtain ⟨ps, e, hs, t⟩ := ordL L' S H fun r hr => h2 r (pm.mem_iff.mp hr)
    refine q p _ ps _ (Kp.new hn) hn upd_same (t.mono (Kp.new (M := []) hn)) (fun z => ⟨hs z, fun hz => ?_⟩) ?_
    · have hz := ((pm.map (·.2)).mem_iff.mpr (h3 z hz))
      rw [e] at hz
      obtain ⟨z', hz', e'⟩ := List.mem_map.mp hz
      rw [← keyP_inj e']
      exact hz'
    · have nd2 : (ps.map keyP).Nodup := by rw [← e]; exact nd
      have pw2 : (ps.map keyP).Pairwise fun x y => TS.code 10000 x ≤ TS.code 10000 y := by
        rw [← e]
        exact List.pairwise_map.mpr pw
      have pw3 := List.pairwise_map.mp pw2
      have nd3 := List.pairwise_map.mp nd2
      refine List.Pairwise.imp_of_mem (fun {x y} hx hy h => ?_) (List.Pairwise.and pw3 nd3)
      obtain ⟨c1, c2⟩ := h
      rw [code_keyP, code_keyP] at c1
      have ox := ok x (hs x hx)
      have oy := ok y (hs y hy)
      unfold okPl at ox oy
      unfold ltP
      rcases Int.lt_or_lt_of_ne (show x.1 * 10000 + x.2 ≠ y.1 * 10000 + y.2 from fun e => c2 (by
        have a : x.1 = y.1 := by omega
        have b : x.2 = y.2 := by omega
        simp [keyP, a, b])) with z | z
      · exact z
      · omega
section
variable {K : PySem.W.Frag} {σ : L2.St} {H : Hp} {R : It → Hp → Prop} {ta : TA} {te : TE} {b c : Bool}
theorem r_iEnumB (h : ta σ H fun vs H1 => ∃ a xs, vs = [.ref a] ∧ SqB K b H1 a xs ∧ R (IteB K b a) H1) : iEnumB K b ta σ H R := h
theorem r_iZipB (h : ta σ H fun vs H1 => ∃ l m xs ys, vs = [.ref l, .ref m] ∧ SqB K b H1 l xs ∧ SqB K c H1 m ys ∧ R (ItzB K b c l m) H1) : iZipB K b c ta σ H R := h
theorem r_iRevA (h : te σ H fun v H1 => ∃ (a : Addr) (xs : List V), v = .ref a ∧ ((SqL K H1 a xs ∧ R (Itv K a xs.length) H1) ∨ (SqT K H1 a xs ∧ R (RT.ItvT K a xs.length) H1))) : RT.iRevA K te σ H R := h
theorem sqBt {a : Addr} {xs : List V} (h : H a = some (.tup xs)) : SqB K true H a xs := by
  unfold SqB
  rw [if_pos rfl]
  exact SqT.of h
theorem sqBl {a : Addr} {xs : List V} (h : H a = some (.lst xs)) : SqB K false H a xs := by
  unfold SqB
  rw [if_neg (by decide)]
  exact SqL.of h
end
theorem op_in_seqK {X : Cx} {K : PySem.W.Frag} (h : X.K = K) : OpR X (compareOp .In) (rIn K false) := by
  subst h
  exact op_in_seq
theorem op_notIn_seqK {X : Cx} {K : PySem.W.Frag} (h : X.K = K) : OpR X (compareOp .NotIn) (rIn K true) := by
  subst h
  exact op_notIn_seq
theorem op_eqXK {X : Cx} {k : Nat} {K : PySem.W.Frag} (hr : Room k X.A) (h : X.K = K) : OpR X (compareOp .Eq) (rEqX K) := by
  subst h
  exact op_eqX hr
theorem op_neXK {X : Cx} {k : Nat} {K : PySem.W.Frag} (hr : Room k X.A) (h : X.K = K) : OpR X (compareOp .NotEq) (rNeX K) := by
  subst h
  exact op_neX hr
theorem ix_seqK {X : Cx} {K : PySem.W.Frag} (h : X.K = K) : IxR X (rIx K) := by
  subst h
  exact ix_seq
theorem call_lenKK {X : Cx} {K : PySem.W.Frag} (h : X.K = K) : CallR X (.builtin "len") (rLenX K) := by
  subst h
  exact call_lenX
theorem call_listKK {X : Cx} {K : PySem.W.Frag} (h : X.K = K) : CallR X (.type "list") (rListK K) := by
  subst h
  exact call_listK
theorem call_tupleKK {X : Cx} {K : PySem.W.Frag} (h : X.K = K) : CallR X (.type "tuple") (rTupleK K) := by
  subst h
  exact call_tupleK
theorem call_isiKK {X : Cx} {K : PySem.W.Frag} (h : X.K = K) : CallR X (.builtin "isinstance") (rIsi K) := by
  subst h
  exact call_isi
end Tp
set_option Elab.async false
set_option linter.all false
set_option maxRecDepth 100000
set_option maxHeartbeats 4000000
set_option pp.maxSteps 500
set_option pp.deepTerms false
namespace Tp
open PySem PySem.Spec PyProof.Rows L2
local macro_rules | `(tactic| walk_at "r") => `(tactic| with_reducible first
  | refine r_seq ?_ | refine r_set ?_ | refine r_ret ?_ | refine r_ifS ?_ | refine r_drop ?_ | refine r_next ?_ | refine r_nx ?_ | refine r_rt ?_
  | refine r_var rfl ?_ | refine r_c ?_ | refine r_op ?_ | refine r_test ?_ | refine r_B ?_ | refine r_exbl ?_ | refine r_exstr ?_ | refine r_exref ?_ | refine r_exint ?_ | refine r_ex2 ?_ | refine r_not ?_ | refine r_and ?_ | refine r_or ?_
  | refine r_andV ?_ | refine r_orV ?_ | refine r_notV ?_ | refine r_ifE ?_ | refine r_chain ?_ | refine r_asg ?_
  | refine r_cb ?_ | refine r_cons ?_ | refine r_nil ?_ | refine r_call ?_ | refine r_par ?_ | refine r_tup ?_ | refine r_lst ?_
  | refine r_lc ?_ | refine r_dget ?_ | refine r_din ?_ | refine r_dnotin ?_ | refine r_dput ?_ | refine r_sl ?_ | refine r_part ?_ | refine r_nopart ?_ | refine r_for ?_ | refine r_iList ?_ | refine r_iTup ?_ | refine r_iStr ?_ | refine r_iKeys ?_ | refine r_rng1 ?_ | refine r_dsetd ?_ | refine r_dnew ?_ | refine r_bm ?_ | refine r_fldaug ?_ | refine r_fldset ?_ | refine r_dz ?_ | refine r_lz ?_ | refine r_gSub ?_ | refine r_dc ?_ | refine r_sc ?_ | refine r_iEnumB ?_ | refine r_iZipB ?_ | refine r_iRevA ?_ | refine r_yes1 ?_ | refine r_gName ?_ | refine r_gCons ?_ | refine r_gNil ?_
  | refine r_I0 ?_ | refine r_eq_str ?_ | refine r_eq_int ?_ | refine r_ne_str ?_ | refine r_ne_int ?_
  | refine r_isi_int_int ?_ | refine r_isi_int_bool ?_ | refine r_isi_str_str ?_ | refine r_isi_int_tup ?_ | refine r_isi_str_tup ?_)
local macro_rules | `(tactic| walk_at "rr") => `(tactic| repeat walk_at "r")
local macro_rules | `(tactic| walk_at "len") => `(tactic| (intro vs H Q E h; repeat (first | (obtain ⟨e, _⟩ := h; rw [e]; rfl) | (obtain ⟨_, h⟩ := h))))
local macro_rules | `(tactic| walk_at "ni") => `(tactic| first | exact ni0 | exact ni1 (by assumption) | exact ni2 (by assumption) (by assumption) | exact ni3 (by assumption) (by assumption) (by assumption))
local macro_rules | `(tactic| walk_at "sub") => `(tactic| first | (intro b hb; cases hb; done) | (intro b hb; exact hb) | (intro b hb; simp at hb ⊢; simp [hb]; done) | (intro b hb; simp at hb ⊢; omega))
local macro_rules | `(tactic| walk_at "kp") => `(tactic| first | assumption | exact Kp.refl _ _ | (refine Kp.step (by assumption) (by walk_at "sub") ?_; walk_at "kp"))
local macro_rules | `(tactic| walk_at "at") => `(tactic| first | assumption | (refine Kp.atT (by assumption) ?_; walk_at "at") | (refine Kp.at (by assumption) ?_ (by walk_at "ni"); walk_at "at"))
local macro_rules | `(tactic| walk_at "td") => `(tactic| first | assumption | exact TD.int _ | exact TD.str _ | exact TDs.nil | (refine TDs.cons ?_ ?_ <;> walk_at "td") | (refine TD.mk (by assumption) ?_; walk_at "td") | (refine TD.mono (by assumption) ?_; walk_at "td") | (refine TDs.mono (by assumption) ?_; walk_at "td"))
local macro_rules | `(tactic| walk_at "b") => `(tactic| first | rfl | decide +kernel | (simp <;> omega) | (simp [*] <;> omega))
local macro_rules | `(tactic| walk_at "if") => `(tactic| first | refine r_yes (by walk_at "b") ?_ | refine r_no (by walk_at "b") ?_)
local macro_rules | `(tactic| walk_at "go") => `(tactic| repeat (first | walk_at "r" | walk_at "if"))
local macro_rules | `(tactic| walk_at "pf") => `(tactic| repeat (fail_if_success (with_reducible refine r_for ?_); walk_at "r"))
local macro_rules | `(tactic| walk_at "pt") => `(tactic| repeat (fail_if_success (with_reducible refine r_ifS ?_); walk_at "r"))
local macro_rules | `(tactic| walk_at "wn") => `(tactic| refine r_no (decide_eq_false (by simp only [Tree.word]; decide +kernel)) ?_)
local macro_rules | `(tactic| walk_at "nx") => `(tactic| (walk_at "wn"; walk_at "rr"))
section
variable {P : Program} {w : World} {K : PySem.W.Frag} {mg : Str → Option Value} {base : Heap}
def arL (l : List Df) (x : Str) : Option Nat := (l.find? fun d => d.name == x).map fun d => d.params.length
theorem arL_cons (d : Df) (l : List Df) (x : Str) : arL (d :: l) x = if d.name = x then some d.params.length else arL l x := by
  unfold arL
  by_cases h : d.name = x
  · rw [List.find?_cons_of_pos (by simp [h])]
    simp [h]
  · rw [List.find?_cons_of_neg (by simp [h])]
    simp [h]
structure Sound (p : List Df) : Prop where
  few : p.length ≤ 8
  ok : ∀ d ∈ p, okDf d
  names : (p.map Df.name).Nodup
  params : ∀ d ∈ p, d.params.Nodup
  snd : ∀ d ∈ p, Snd (arL p) d.params d.body
theorem TD.df_inv {H : Hp} {v : V} {d : Df} (h : TD H v (df d)) : ∃ a v1 v3 v4, v = .ref a ∧ H a = some (.tup [.str "def", v1, .str d.name, v3, v4]) ∧ TD H v1 (pl d.p) ∧ TD H v3 (.tuple (d.params.map PyData.str)) ∧ TD H v4 (tr d.body) := by
  obtain ⟨a, xs, rfl, ha, t⟩ := h.inv
  obtain ⟨y0, ys, rfl, h0, t⟩ := t.cons_inv
  obtain ⟨y1, ys, rfl, h1, t⟩ := t.cons_inv
  obtain ⟨y2, ys, rfl, h2, t⟩ := t.cons_inv
  obtain ⟨y3, ys, rfl, h3, t⟩ := t.cons_inv
  obtain ⟨y4, ys, rfl, h4, t⟩ := t.cons_inv
  cases t.nil_inv
  rw [h0.inv_str, h2.inv_str] at ha
  exact ⟨a, y1, y3, y4, rfl, ha, h1, h3, h4⟩
theorem cutD_take {α : Type} (ds : List α) (i : Nat) (h : i ≤ ds.length) : cutD ds none (some (i : Int)) = ds.take i := by
  unfold cutD
  rw [HT.sIx_none, HT.sIx_nat, Nat.min_eq_left h]
  simp
theorem not_mem_take {α : Type} {l : List α} {i : Nat} {x : α} (nd : l.Nodup) (h : l[i]? = some x) : x ∉ l.take i := by
  intro hm
  obtain ⟨j, hj, e⟩ := List.getElem_of_mem hm
  rw [List.getElem_take] at e
  have hj2 : j < i := by
    rw [List.length_take] at hj
    omega
  obtain ⟨hi, e2⟩ := List.getElem?_eq_some_iff.mp h
  have := (List.getElem_inj nd (h₀ := by omega) (h₁ := hi)).mp (e.trans e2.symm)
  omega
def sp_faults : Sp := fun vs H Q _ => ∃ (v : V) (p : List Df), vs = [v] ∧ TD H v (.tuple (p.map df)) ∧ Sound p ∧ ∀ l H', Kp [] H H' → H l = none → H' l = some (.lst []) → Q (.ref l) H'
theorem sc_faults : FnScope ["program", "table", "one", "found", "at", "word", "place", "name", "params", "body", "k", "param", "row"] ["program"] (defScope s_faults) := ⟨rfl, rfl, rfl, by decide +kernel, rfl, by decide +kernel, by decide +kernel⟩
theorem c_faults (T : Txt K mg) (C_need_program : Cal P w K mg base 17 "need_program" ["thing"] sp_need_program) (C_tree_faults : Cal P w K mg base 13 "tree_faults" ["tree", "near", "table"] (sp_tree_faults 10)) : Cal P w K mg base 18 "faults" ["program"] sp_faults := by
  obtain ⟨fd, F⟩ := T.F_faults
  refine mk_cal F T.g_faults (fun _ _ _ _ _ _ us hl => match us, hl with | [_], _ => rfl) (mk_ok F sc_faults (by walk_at "len") fun cdv A outer s H vs Q E hr h => ?_)
  obtain ⟨v, p, rfl, hv, S, q⟩ := h
  obtain ⟨a, xs, rfl, ha, ts⟩ := hv.inv
  refine ⟨_, (pss_cons (ps_expr (pe_cal C_need_program hr (pa_cons (pv 0) pa_nil))) (pss_cons (ps_setDc (i := 1) (own := [("one", 2)]) (g := (gName 2)) (tt := tYes) rfl sc_faults.nd rfl rfl (sw_trueD rfl rfl rfl (by decide +kernel)) (RT.pi_revA (by rfl) T.b_reversed (pv 0)) (blkOk_by (own := [("one", 2)]) (N := ["program", "table", "one", "found", "at", "word", "place", "name", "params", "body", "k", "param", "row"]) (sc := defScope s_faults) (by decide +kernel)) (fun _ _ _ _ _ => (pg_name (i := 2) sc_faults.nd rfl (by first | exact Or.inl rfl | exact Or.inr rfl))) (fun _ _ _ _ _ => pts_nil) (fun _ _ _ _ _ => (pe_ix (ix_seqK (K := K) rfl) (pv 2) pe_int (fun _ _ => rfl))) (fun _ _ _ _ _ => (pe_callB (call_lenKK (K := K) rfl) (by rfl) T.b_len PySem.boot_len (pa_cons (pe_ix (ix_seqK (K := K) rfl) (pv 2) pe_int (fun _ _ => rfl)) pa_nil)))) (pss_cons (ps_set (i := 3) sc_faults.nd rfl (by first | exact Or.inl rfl | exact Or.inr rfl) (pe_lstK pa_nil)) (pss_cons (ps_for PassesOwn.never rfl (pi_enumB true (by rfl) T.b_enumerate (pa_cons (pv 0) pa_nil)) (pg_tup rfl (pgs_cons (pg_name (i := 4) sc_faults.nd rfl (by first | exact Or.inl rfl | exact Or.inr rfl)) (pgs_cons (pg_tup rfl (pgs_cons (pg_name (i := 5) sc_faults.nd rfl (by first | exact Or.inl rfl | exact Or.inr rfl)) (pgs_cons (pg_name (i := 6) sc_faults.nd rfl (by first | exact Or.inl rfl | exact Or.inr rfl)) (pgs_cons (pg_name (i := 7) sc_faults.nd rfl (by first | exact Or.inl rfl | exact Or.inr rfl)) (pgs_cons (pg_name (i := 8) sc_faults.nd rfl (by first | exact Or.inl rfl | exact Or.inr rfl)) (pgs_cons (pg_name (i := 9) sc_faults.nd rfl (by first | exact Or.inl rfl | exact Or.inr rfl)) pgs_nil)))))) pgs_nil))) (pss_cons (ps_if (pt_cmpR (op_in_seqK (K := K) rfl) (pv 7) (pe_lc (own := [("one", 2)]) (g := (gName 2)) (tt := tYes) rfl sc_faults.nd (pi_tup (pe_slice sl_tupK (pv 0) po_none (po_some (pv 4)))) (blkOk_by (own := [("one", 2)]) (N := ["program", "table", "one", "found", "at", "word", "place", "name", "params", "body", "k", "param", "row"]) (sc := defScope s_faults) (by decide +kernel)) (fun _ _ _ _ _ => (pg_name (i := 2) sc_faults.nd rfl (by first | exact Or.inl rfl | exact Or.inr rfl))) (fun _ _ _ _ _ => pts_nil) (fun _ _ _ _ _ => (pe_ix (ix_seqK (K := K) rfl) (pv 2) pe_int (fun _ _ => rfl)))) rfl) (pss_one (ps_expr (pe_bm PySem.F.plainAttrs_list PySem.F.slot_list_append PySem.F.type_list_append mt_append (pv 3) (pa_cons (pe_tupK (pa_cons (pv 6) (pa_cons pe_str (pa_cons (pv 7) pa_nil)))) pa_nil)))) pss_nil) (pss_cons (ps_set (i := 3) sc_faults.nd rfl (by first | exact Or.inl rfl | exact Or.inr rfl) (pe_op op_catK (pv 3) (pe_lc (own := [("k", 10), ("param", 11)]) (g := (gTup K 2 (gCons (gName 10) (gCons (gName 11) gNil)))) rfl sc_faults.nd (pi_enumB true (by rfl) T.b_enumerate (pa_cons (pv 8) pa_nil)) (blkOk_by (own := [("k", 10), ("param", 11)]) (N := ["program", "table", "one", "found", "at", "word", "place", "name", "params", "body", "k", "param", "row"]) (sc := defScope s_faults) (by decide +kernel)) (fun _ _ _ _ _ => (pg_tup rfl (pgs_cons (pg_name (i := 10) sc_faults.nd rfl (by first | exact Or.inl rfl | exact Or.inr rfl)) (pgs_cons (pg_name (i := 11) sc_faults.nd rfl (by first | exact Or.inl rfl | exact Or.inr rfl)) pgs_nil)))) (fun _ _ _ _ _ => (pts_one (pt_cmpR (op_in_seqK (K := K) rfl) (pv 11) (pe_slice sl_tupK (pv 8) po_none (po_some (pv 10))) rfl))) (fun _ _ _ _ _ => (pe_tupK (pa_cons (pv 6) (pa_cons pe_str (pa_cons (pv 11) pa_nil)))))))) (pss_one (ps_set (i := 3) sc_faults.nd rfl (by first | exact Or.inl rfl | exact Or.inr rfl) (pe_op op_catK (pv 3) (pe_cal C_tree_faults hr (pa_cons (pv 9) (pa_cons (pv 8) (pa_cons (pv 1) pa_nil)))))))))) (pss_one (ps_ret (pe_callB (cr_sortedP rfl) (by rfl) T.b_sorted (by decide +kernel) (pa_cons (pe_scT (own := [("row", 12)]) (g := (gName 12)) (tt := tYes) hr.units rfl sc_faults.nd (pi_list (pv 3)) (blkOk_by (own := [("row", 12)]) (N := ["program", "table", "one", "found", "at", "word", "place", "name", "params", "body", "k", "param", "row"]) (sc := defScope s_faults) (by decide +kernel)) (fun _ _ _ _ _ => (pg_name (i := 12) sc_faults.nd rfl (by first | exact Or.inl rfl | exact Or.inr rfl))) (fun _ _ _ _ _ => pts_nil) (fun _ _ _ _ _ => (pv 12))) pa_nil)))))))), ?_⟩
  walk_at "rr"
  refine ⟨.ref a, p, rfl, hv, S.few, S.ok, fun H1 k1 => ?_⟩
  walk_at "rr"
  refine ⟨a, xs, rfl, .inr ⟨SqT.of (k1.atT ha), ?_⟩⟩
  have hlen : xs.length = p.length := by rw [ts.1, List.length_map]
  have hlen8 := S.few
  refine dcW walk_revT (by omega) (fun i kvs _ => ∀ x, valV kvs (.inr x) = (arL (p.drop (p.length - i)) x).map fun n => V.int (n : Nat)) (fun H2 k => SqT.of ((k1.trans k).atT ha)) ?_ ?_ ?_
  · intro D H2 hD k x
    rw [show p.drop (p.length - 0) = [] from by simp]
    rfl
  · rintro i y D kvs H2 H3 hi hD hl k hdd r ⟨rfl, hy⟩
    obtain ⟨dd, hd, hid, htd⟩ := ts.map_get hy
    have htd := htd.mono (k1.trans k)
    walk_at "rr"
    refine ⟨rfl, ?_⟩
    walk_at "rr"
    refine r_yes rfl ?_
    walk_at "rr"
    refine r_ix_str htd 2 rfl ?_
    walk_at "rr"
    refine r_ix htd 3 rfl fun v3 h3 => ?_
    walk_at "rr"
    refine r_len_td h3 ?_
    refine dc_fin (k := Sum.inr dd.name) hD (by omega) hl k hdd rfl fun H5 k5 x => ?_
    have e : p.drop (p.length - (i + 1)) = dd :: p.drop (p.length - i) := by
      have e1 : p.length - i = p.length - (i + 1) + 1 := by omega
      rw [e1]
      have e2 : p.length - (i + 1) < p.length := by omega
      rw [List.drop_eq_getElem_cons e2]
      have e3 : xs.length - 1 - i = p.length - (i + 1) := by omega
      rw [e3, List.getElem?_eq_getElem e2] at hid
      rw [Option.some.inj hid]
    rw [e, valV_put, arL_cons, r x]
    by_cases hx : dd.name = x
    · subst hx
      simp
    · rw [if_neg hx, if_neg (fun e => hx (Sum.inr.inj e).symm)]
  intro d kvs H2 hD _ k2 hdd r
  have ar : ArAt H2 d (arL p) := ⟨kvs, hdd, fun x => by rw [r x, hlen]; simp⟩
  have k2 := k1.trans k2
  walk_at "rr"
  refine ⟨by simp, fun l0 H3 k3 n3 e3 => ?_⟩
  walk_at "rr"
  refine ⟨a, xs, rfl, sqBt ((k2.trans k3).atT ha), ?_⟩
  refine forW (walk_enumB (b := true) (xs := xs)) (fun _ σ H' => ∃ l o4 o5 o6 o7 o8 o9, σ = [some (.ref a), some (.ref d), none, some (.ref l), o4, o5, o6, o7, o8, o9, none, none, none] ∧ Kp [] H H' ∧ Kp [] H2 H' ∧ H' l = some (.lst [])) ⟨l0, none, none, none, none, none, none, rfl, k2.trans k3, k3, e3⟩ ?_ ?_ ?_
  · rintro i σ H' _ ⟨_, _, _, _, _, _, _, _, k, _, _⟩
    exact sqBt (k.atT ha)
  · rintro i x σ H4 H5 hi ⟨l, o4, o5, o6, o7, o8, o9, rfl, k, k', el⟩ y
    obtain ⟨Tp, ia, xb, rfl, nT, kT, eT, hia, hxb⟩ := YPair.use y
    obtain ⟨rfl⟩ : V.int (i : Nat) = ia := Option.some.inj hia
    obtain ⟨dd, hd, hid, htd⟩ := ts.map_get hxb
    have k5 := k.trans kT
    have k5' := k'.trans kT
    have el5 := kT.at el ni0
    obtain ⟨ad, v1, v3, v4, rfl, hta, t1, t3, t4⟩ := (htd.mono k5).df_inv
    refine r_gTup rfl eT rfl ?_
    walk_at "rr"
    refine r_gTup rfl hta rfl ?_
    walk_at "rr"
    refine ⟨p.map df, hv.mono k5, fun ys H6 k6 t6 => ?_⟩
    rw [cutD_take _ _ (by rw [List.length_map]; omega), ← List.map_take] at t6
    obtain ⟨a6, ys6, rfl, ha6, ts6⟩ := t6.inv
    walk_at "rr"
    refine ⟨⟨_, SqT.of ha6⟩, ?_⟩
    have hl6 : ys6.length = (p.take i).length := by rw [ts6.1, List.length_map]
    have hl6' : ys6.length ≤ i := by
      rw [hl6, List.length_take]
      omega
    refine lcW walk_tup (by omega) [] (fun j acc _ => acc = ((p.take i).take j).map fun d => V.str d.name) (fun H7 k => SqT.of (k.atT ha6)) (fun _ _ _ _ => rfl) ?_ ?_
    · rintro j z D acc H7 H8 hj hD hl k7 hdd7 rj ⟨rfl, hz⟩
      obtain ⟨d2, hd2, hid2, htd2⟩ := ts6.map_get hz
      walk_at "rr"
      refine ⟨rfl, ?_⟩
      walk_at "rr"
      refine r_yes rfl ?_
      walk_at "rr"
      refine r_ix_str (htd2.mono k7) 2 rfl ?_
      refine lc_fin hD (by omega) hl k7 hdd7 fun H9 k9 => ?_
      rw [rj, List.take_add_one, hid2, List.map_append]
      rfl
    · intro D acc H7 hD hl k7 hdd7 rj
      have rj2 : acc = ((p.take i).map Df.name).map V.str := by
        rw [rj, hl6, List.take_length, List.map_map]
        rfl
      subst rj2
      walk_at "rr"
      refine r_in_l hdd7 ?_
      walk_at "rr"
      refine r_no (decide_eq_false ?_) ?_
      · rw [List.map_take]
        refine not_mem_take S.names ?_
        rw [List.getElem?_map, hid]
        rfl
      have k7 := k6.trans k7
      walk_at "rr"
      obtain ⟨a3, xs3, rfl, ha3, ts3⟩ := (t3.mono k7).inv
      have hx3 := ts3.strs_inv
      have fewp := (S.ok dd hd).few
      have l3 : xs3.length = dd.params.length := by rw [hx3, List.length_map]
      refine ⟨a3, xs3, rfl, sqBt ha3, ?_⟩
      refine lcW (walk_enumB (b := true)) (by omega) [] (fun j acc _ => acc = []) (fun H8 k => sqBt (k.atT ha3)) (fun _ _ _ _ => rfl) ?_ ?_
      · rintro j z D8 acc8 H8 H9 hj hD8 hl8 k8 hdd8 rj8 y8
        obtain ⟨T8, ja, jb, rfl, nT8, kT8, eT8, hja, hjb⟩ := YPair.use y8
        obtain ⟨rfl⟩ : V.int (j : Nat) = ja := Option.some.inj hja
        rw [hx3, List.getElem?_map] at hjb
        obtain ⟨x8, hx8, rfl⟩ := Option.map_eq_some_iff.mp hjb
        refine r_gTup rfl eT8 rfl ?_
        walk_at "rr"
        refine ⟨rfl, ?_⟩
        walk_at "rr"
        have k9 := k8.trans kT8
        refine ⟨dd.params.map PyData.str, TD.mk (k9.atT ha3) (ts3.mono k9), fun y9 H10 k10 t10 => ?_⟩
        rw [cutD_take _ _ (by rw [List.length_map]; omega), ← List.map_take] at t10
        refine r_in_td t10 ?_
        walk_at "rr"
        refine r_no (decide_eq_false ?_) ?_
        · exact not_mem_take (S.params dd hd) hx8
        exact ⟨acc8, by omega, k9.trans k10, k10.at (kT8.at hdd8 ni0) ni0, rj8⟩
      · rintro D8 acc8 H8 hD8 hl8 k8 hdd8 rfl
        refine ⟨l, D8, [], [], rfl, rfl, (k7.trans k8).at el5 ni0, hdd8, by simp, fun l9 H9 k9 n9 e9 => ?_⟩
        have k9 := (k7.trans k8).trans k9
        walk_at "rr"
        refine ⟨v4, .ref a3, d, dd.body, dd.params, arL p, rfl, t4.mono k9, (t3.mono k9), ar.mono (k5'.trans k9) ni0, (S.ok dd hd).dep, (S.ok dd hd).body, S.snd dd hd, by omega, fun l10 H10 k10 n10 e10 => ?_⟩
        refine ⟨l9, l10, [], [], rfl, rfl, k10.at e9 ni0, e10, by simp, fun l11 H11 k11 n11 e11 => ?_⟩
        walk_at "rr"
        exact ⟨l11, _, _, _, _, _, _, rfl, k5.trans (k9.trans (k10.trans k11)), k5'.trans (k9.trans (k10.trans k11)), e11⟩
  · rintro σ H4 ⟨l, o4, o5, o6, o7, o8, o9, rfl, k, k', el⟩
    walk_at "rr"
    refine ⟨⟨_, SqL.of el⟩, ?_⟩
    refine scW walk_list [] (fun _ S _ => S = []) (fun H5 k => SqL.of (k.at el ni0)) (fun _ _ _ _ => rfl) ?_ ?_
    · intro i x D S H5 H6 hi
      exact absurd hi (by simp)
    · rintro D S H5 hD _ k5 sp rfl
      walk_at "rr"
      refine ⟨D, [], rfl, sp, by simp, fun l ys ps H6 k6 n6 e6 t6 hps _ => ?_⟩
      have ep : ps = [] := List.eq_nil_iff_forall_not_mem.mpr fun q hq => by
        have := (hps q).mp hq
        simp at this
      subst ep
      cases t6.nil_inv
      exact q l H6 (k.trans (k5.trans k6)) (k.free (k5.free n6)) e6

def sp_need_sound : Sp := fun vs H Q _ => ∃ (v : V) (p : List Df), vs = [v] ∧ TD H v (.tuple (p.map df)) ∧ Sound p ∧ ∀ H', Kp [] H H' → Q .non H'
theorem sc_need_sound : FnScope ["program", "many"] ["program"] (defScope s_need_sound) := ⟨rfl, rfl, rfl, by decide +kernel, rfl, by decide +kernel, by decide +kernel⟩
theorem c_need_sound (T : Txt K mg) (C_faults : Cal P w K mg base 18 "faults" ["program"] sp_faults) : Cal P w K mg base 19 "need_sound" ["program"] sp_need_sound := by
  obtain ⟨fd, F⟩ := T.F_need_sound
  refine mk_cal F T.g_need_sound (fun _ _ _ _ _ _ us hl => match us, hl with | [_], _ => rfl) (mk_ok F sc_need_sound (by walk_at "len") fun cdv A outer s H vs Q E hr h => ?_)
  obtain ⟨v, p, rfl, hv, S, q⟩ := h
  refine ⟨_, (pss_cons (ps_set (i := 1) sc_need_sound.nd rfl (by first | exact Or.inl rfl | exact Or.inr rfl) (pe_callB (call_lenKK (K := K) rfl) (by rfl) T.b_len PySem.boot_len (pa_cons (pe_cal C_faults hr (pa_cons (pv 0) pa_nil)) pa_nil))) (pss_one (ps_if (pt_cmpR op_gt (pv 1) pe_int (nomark _)) (pss_one ps_never) pss_nil))), ?_⟩
  walk_at "rr"
  refine ⟨v, p, rfl, hv, S, fun l H1 k1 n1 e1 => ?_⟩
  walk_at "rr"
  refine r_len_l e1 ?_
  walk_at "go"
  exact q _ k1
end
end Tp
set_option Elab.async false
set_option linter.all false
set_option maxRecDepth 100000
set_option maxHeartbeats 4000000
namespace Tp
open PySem PySem.Spec PyProof.Rows L2

/-! ### zip whose tuples stay: dict(zip(..)), list(zip(..)) -/
section
variable {prog : Program} {w : World} {A : Around} {E : Value → Shared → Prop} {s : Shared} {z TI TO i1 i2 T : Addr} {f : Bool} {oT : Obj} {fp1 fp2 : List Addr} {n1 n2 i : Nat} {P1 P2 : Nat → Value → Prop} {St1 St2 : Nat → Heap → Prop}
theorem zip_next_item_heldD {Q : Value → Shared → Prop} (S : ZipSep2 z TI TO i1 i2 fp1 fp2) (D1 : Draws prog w A i1 fp1 n1 P1 St1) (D2 : Draws prog w A i2 fp2 n2 P2 St2)
    (hz : IsZipHeld s.heap z TI TO T f) (hT : s.heap.get? T = some oT) (hTI : IsTupOf2 s.heap TI (.ref i1) (.ref i2)) (st1 : St1 i s.heap) (st2 : St2 i s.heap) (hlt1 : i < n1) (hlt2 : i < n2)
    (hQ : ∀ x1 x2 h' tk, P1 i x1 → P2 i x2 → IsZipHeld h' z TI TO T true → St1 (i + 1) h' → St2 (i + 1) h' → IsTupOf2 h' s.heap.objs.size x1 x2 → h'.objs.size = s.heap.objs.size + 1 →
      (∀ c o, c ≠ z → c ≠ i1 → c ≠ i2 → s.heap.get? c = some o → h'.get? c = some o) → Q (.ref s.heap.objs.size) { s with heap := h', toks := tk }) :
    wpAny (model prog w) A (Builtin.«zip.__next__» ⟨[.ref z], []⟩) (fun fin s' => ∃ v, fin = .done (.ret v) ∧ Q v s') E s := by
  obtain ⟨hp, g, d, tk0, os⟩ := s
  show wpAny _ _ (field (.ref z) 2 >>= _) _ _ _
  refine wpAny_bind (wpAny_field hz rfl (x := .bool false) rfl ?_)
  show wpAny _ _ (field (.ref z) 3 >>= _) _ _ _
  refine wpAny_bind (wpAny_field hz rfl (x := .ref TI) rfl ?_)
  refine wpAny_bind (wpAny_seqItems hTI rfl ?_)
  show wpAny _ _ (Builtin.SmallTypes.ownedTupleIsFree (.ref z) >>= _) _ _ _
  refine wpAny_bind (wpAny_tupleHeld_zip hz hT fun h₁ hz₁ hs₁ => ?_)
  replace hs₁ : Heap.SameBut z hp h₁ := hs₁
  simp only [Bool.false_eq_true, if_false]
  refine wpAny_bind ?_
  rw [← Array.forIn_toList]
  simp only [List.forIn_cons, List.forIn_nil]
  refine wpAny_bind (wpAny_bind (wpAny_holding ?_))
  show wpAny _ _ (Builtin.SmallTypes.nextOf (.ref i1) >>= _) _ _ ⟨h₁, g, d, tk0, os⟩
  refine wpAny_bind (D1.item i _ _ _ hlt1 (D1.over st1 hs₁ S.zf1) fun x1 p1 tk1 hx1 sn1 hp1 => wpAny_pure ?_)
  replace hp1 : Heap.SameBut i1 h₁ p1 := hp1
  refine wpAny_pure ?_
  refine wpAny_bind (wpAny_bind (wpAny_holding ?_))
  show wpAny _ _ (Builtin.SmallTypes.nextOf (.ref i2) >>= _) _ _ ⟨p1, g, d, tk1, os⟩
  refine wpAny_bind (D2.item i _ _ _ hlt2 (D2.over (D2.over st2 hs₁ S.zf2) hp1 S.sep1_2) fun x2 p2 tk2 hx2 sn2 hp2 => wpAny_pure ?_)
  replace hp2 : Heap.SameBut i2 p1 p2 := hp2
  refine wpAny_pure (wpAny_pure ?_)
  show wpAny _ _ (newTuple [x1, x2] >>= _) _ _ _
  refine wpAny_bind (wpAny_newTuple ?_)
  have hsz : p2.objs.size = hp.objs.size := by rw [hp2.1, hp1.1, hs₁.1]
  have hz₃ : IsZipHeld p2 z TI TO T true := hp2.extBut _ _ S.zi2 (hp1.extBut _ _ S.zi1 hz₁)
  have hk : ∀ c o, c ≠ z → c ≠ i1 → c ≠ i2 → hp.get? c = some o → p2.get? c = some o := fun c o c1 c2 c3 e => hp2.extBut _ _ c3 (hp1.extBut _ _ c2 (hs₁.extBut _ _ c1 e))
  have hj1 : St1 (i + 1) p2 := D1.over sn1 hp2 S.sep2_1
  have hj2 : St2 (i + 1) p2 := sn2
  refine wpAny_pure ⟨_, rfl, ?_⟩
  show Q (.ref p2.objs.size) ⟨p2.push { cls := .type "tuple", data := .seq #[x1, x2] }, g, d, tk2, os⟩
  have hpp : IsTupOf2 (p2.push { cls := .type "tuple", data := .seq #[x1, x2] }) p2.objs.size x1 x2 := Heap.get?_push_size _ rfl
  have hz4 : (p2.push { cls := .type "tuple", data := .seq #[x1, x2] }).objs.size = p2.objs.size + 1 := Heap.size_push ..
  rw [hsz] at hpp hz4 ⊢
  exact hQ x1 x2 _ tk2 hx1 hx2 (Heap.get?_push_of_some _ hz₃) (D1.frame _ _ _ hj1 fun b _ o e => Heap.get?_push_of_some _ e) (D2.frame _ _ _ hj2 fun b _ o e => Heap.get?_push_of_some _ e) hpp hz4 fun c o c1 c2 c3 e => Heap.get?_push_of_some _ (hk c o c1 c2 c3 e)
theorem zip_next_end_heldD {Q : Fin → Shared → Prop} (S : ZipSep2 z TI TO i1 i2 fp1 fp2) (D1 : Draws prog w A i1 fp1 n1 P1 St1)
    (hz : IsZipHeld s.heap z TI TO T f) (hT : s.heap.get? T = some oT) (hTI : IsTupOf2 s.heap TI (.ref i1) (.ref i2)) (st1 : St1 n1 s.heap)
    (hE : ∀ h' e, (∀ c o, c ≠ z → c ≠ i1 → c ≠ i2 → s.heap.get? c = some o → h'.get? c = some o) → (∃ o, h'.get? e = some o ∧ o.cls = .type "StopIteration") → E (.ref e) { s with heap := h' }) :
    wpAny (model prog w) A (Builtin.«zip.__next__» ⟨[.ref z], []⟩) Q E s := by
  obtain ⟨hp, g, d, tk0, os⟩ := s
  show wpAny _ _ (field (.ref z) 2 >>= _) _ _ _
  refine wpAny_bind (wpAny_field hz rfl (x := .bool false) rfl ?_)
  show wpAny _ _ (field (.ref z) 3 >>= _) _ _ _
  refine wpAny_bind (wpAny_field hz rfl (x := .ref TI) rfl ?_)
  refine wpAny_bind (wpAny_seqItems hTI rfl ?_)
  show wpAny _ _ (Builtin.SmallTypes.ownedTupleIsFree (.ref z) >>= _) _ _ _
  refine wpAny_bind (wpAny_tupleHeld_zip hz hT fun h₁ hz₁ hs₁ => ?_)
  replace hs₁ : Heap.SameBut z hp h₁ := hs₁
  simp only [Bool.false_eq_true, if_false]
  refine wpAny_bind ?_
  rw [← Array.forIn_toList]
  simp only [List.forIn_cons, List.forIn_nil]
  refine wpAny_bind (wpAny_bind (wpAny_holding ?_))
  show wpAny _ _ (Builtin.SmallTypes.nextOf (.ref i1) >>= _) _ _ ⟨h₁, g, d, tk0, os⟩
  refine wpAny_bind (D1.done ⟨h₁, g, d, tk0, os⟩ _ _ (D1.over st1 hs₁ S.zf1) fun h₂ e hs₂ he => ?_)
  exact hE h₂ e (fun c o c1 c2 _ x => hs₂ _ _ c2 (hs₁.extBut _ _ c1 x)) he
end
/-- how a zip stands while its tuples are kept: off: where its own tuple is not -/
def ZSt (b c : Bool) (l m z TI TO i1 i2 : Addr) (xs ys : Array Value) (off : List Addr) (i : Nat) (h : Heap) : Prop :=
  IsTupOf2 h TI (.ref i1) (.ref i2) ∧ (StI b h i1 l i ∧ StO b h l xs) ∧ (StI c h i2 m i ∧ StO c h m ys) ∧
  ((IsZip h z TI TO .none ∧ ∃ x y, IsTupOf2 h TO x y) ∨ ∃ T f oT, IsZipHeld h z TI TO T f ∧ h.get? T = some oT ∧ T ≠ z ∧ T ≠ i1 ∧ T ≠ i2 ∧ T ∉ off)
section
variable {prog : Program} {w : World} {A : Around} {E : Value → Shared → Prop} {s : Shared} {b c : Bool} {l m z TI TO i1 i2 : Addr} {xs ys : Array Value} {off : List Addr} {i : Nat}
theorem StO.at {h h' : Heap} {items : Array Value} (x : StO b h l items) (k : ∀ o, h.get? l = some o → h'.get? l = some o) : StO b h' l items := by
  cases b
  · exact Heap.IsList.at x k
  · exact Heap.IsTuple.at x k
theorem StO.obj {h : Heap} {items : Array Value} (x : StO b h l items) : ∃ o, h.get? l = some o := by
  cases b
  · obtain ⟨o, ho, _⟩ := (show h.IsList l items from x)
    exact ⟨o, ho⟩
  · obtain ⟨o, ho, _⟩ := (show h.IsTuple l items from x)
    exact ⟨o, ho⟩
theorem ZSt.keep {h h' : Heap} (st : ZSt b c l m z TI TO i1 i2 xs ys off i h) (hf : ∀ x ∈ off, x ∉ [z, TI, TO, i1, i2, l, m]) (k : ∀ x o, x ∉ off → h.get? x = some o → h'.get? x = some o) : ZSt b c l m z TI TO i1 i2 xs ys off i h' := by
  obtain ⟨hTI, ⟨a1, a2⟩, ⟨b1, b2⟩, hz⟩ := st
  have nf : ∀ x ∈ [z, TI, TO, i1, i2, l, m], x ∉ off := fun x hx ho => hf x ho hx
  refine ⟨k _ _ (nf TI (by simp)) hTI, ⟨a1.at fun o e => k _ o (nf i1 (by simp)) e, a2.at fun o e => k _ o (nf l (by simp)) e⟩, ⟨b1.at fun o e => k _ o (nf i2 (by simp)) e, b2.at fun o e => k _ o (nf m (by simp)) e⟩, ?_⟩
  rcases hz with ⟨hz, x, y, hTO⟩ | ⟨T, f, oT, hz, hT, r1, r2, r3, r4⟩
  · exact .inl ⟨k _ _ (nf z (by simp)) hz, x, y, k _ _ (nf TO (by simp)) hTO⟩
  · exact .inr ⟨T, f, oT, k _ _ (nf z (by simp)) hz, k _ _ r4 hT, r1, r2, r3, r4⟩
theorem zst_item {Q : Option Value → Shared → Prop} (hh : A.in1.handled = none) (S : ZipSep2 z TI TO i1 i2 [i1, l] [i2, m]) (hl : l ≠ i1) (hm : m ≠ i2) (st : ZSt b c l m z TI TO i1 i2 xs ys off i s.heap) (hoff : ∀ x ∈ off, x < s.heap.objs.size) (hlt1 : i < xs.size) (hlt2 : i < ys.size)
    (hQ : ∀ x1 x2 h' tk, xs[i]? = some x1 → ys[i]? = some x2 → ZSt b c l m z TI TO i1 i2 xs ys off (i + 1) h' → IsTupOf2 h' s.heap.objs.size x1 x2 → h'.objs.size = s.heap.objs.size + 1 →
      (∀ x o, x ∉ [z, TO, i1, i2] → s.heap.get? x = some o → h'.get? x = some o) → Q (some (.ref s.heap.objs.size)) { s with heap := h', toks := tk }) : wpAny (model prog w) A (pyNext (.ref z)) Q E s := by
  obtain ⟨hTI, st1, st2, hz⟩ := st
  have lt : ∀ {c o}, s.heap.get? c = some o → s.heap.objs.size ≠ c := fun e => Nat.ne_of_gt (Heap.lt_size e)
  have n1 : s.heap.objs.size ≠ i1 := let ⟨_, e, _⟩ := st1.1.obj; lt e
  have n2 : s.heap.objs.size ≠ i2 := let ⟨_, e, _⟩ := st2.1.obj; lt e
  rcases hz with ⟨hz, x, y, hTO⟩ | ⟨T, f, oT, hz, hT, r1, r2, r3, r4⟩
  · refine wpAny_pyNext_zipD2_item S (drawsB (A := A.in1) hh b i1 l hl xs) (drawsB (A := A.in1) hh c i2 m hm ys) hz hTI hTO st1 st2 hlt1 hlt2 fun x1 x2 h' tk p1 p2 z' TO' s1 s2 hT hsz hk => ?_
    refine hQ x1 x2 h' tk p1 p2 ⟨hk _ _ S.TIz S.TITO S.TIi1 S.TIi2 hTI, s1, s2, .inr ⟨s.heap.objs.size, false, _, z', hT, lt hz, n1, n2, fun hm => Nat.lt_irrefl _ (hoff _ hm)⟩⟩ hT hsz fun x o hx e => hk x o (fun q => hx (by simp [q])) (fun q => hx (by simp [q])) (fun q => hx (by simp [q])) (fun q => hx (by simp [q])) e
  · have hTy : s.TypeIs (.ref z) "zip" := ⟨_, hz, rfl⟩
    unfold pyNext
    refine wpAny_bind (wpAny_attempt (wpAny_callSpecial?_slot (name := Str.ofString "__next__") hTy F.slot_zip_next
      (wpAny_call_entry F.slot_zip_next hTy F.entry_zip_next
        (zip_next_item_heldD S (drawsB (A := A.in1) hh b i1 l hl xs) (drawsB (A := A.in1) hh c i2 m hm ys) hz hT hTI st1 st2 hlt1 hlt2 fun x1 x2 h' tk p1 p2 z' s1 s2 hT' hsz hk => wpAny_pure ?_) (F.args_zip_next_1 _))))
    exact hQ x1 x2 h' tk p1 p2 ⟨hk _ _ S.TIz S.TIi1 S.TIi2 hTI, s1, s2, .inr ⟨T, true, oT, z', hk _ _ r1 r2 r3 hT, r1, r2, r3, r4⟩⟩ hT' hsz fun x o hx e => hk x o (fun q => hx (by simp [q])) (fun q => hx (by simp [q])) (fun q => hx (by simp [q])) e
theorem zst_end {Q : Option Value → Shared → Prop} (hh : A.in1.handled = none) (S : ZipSep2 z TI TO i1 i2 [i1, l] [i2, m]) (hl : l ≠ i1) (hm : m ≠ i2) (st : ZSt b c l m z TI TO i1 i2 xs ys off i s.heap) (e1 : i = xs.size) (e2 : i = ys.size)
    (hQ : ∀ h' tk, (∀ x o, x ∉ [z, TO, i1, i2] → s.heap.get? x = some o → h'.get? x = some o) → Q none { s with heap := h', toks := tk }) : wpAny (model prog w) A (pyNext (.ref z)) Q E s := by
  obtain ⟨hTI, st1, st2, hz⟩ := st
  rcases hz with ⟨hz, x, y, hTO⟩ | ⟨T, f, oT, hz, hT, r1, r2, r3, r4⟩
  · exact wpAny_pyNext_zipD2_end S (drawsB (A := A.in1) hh b i1 l hl xs) (drawsB (A := A.in1) hh c i2 m hm ys) hz hTI hTO st1 st2 (Nat.le_of_eq e1) (Nat.le_of_eq e2) (.inl e1) fun h' tk hk => hQ h' tk fun x o hx e => hk x o (fun q => hx (by simp [q])) (fun q => hx (by simp [q])) (fun q => hx (by simp [q])) (fun q => hx (by simp [q])) e
  · have hTy : s.TypeIs (.ref z) "zip" := ⟨_, hz, rfl⟩
    subst e1
    unfold pyNext
    refine wpAny_bind (wpAny_attempt (wpAny_callSpecial?_slot (name := Str.ofString "__next__") hTy F.slot_zip_next
      (wpAny_call_entry F.slot_zip_next hTy F.entry_zip_next (zip_next_end_heldD S (drawsB (A := A.in1) hh b i1 l hl xs) hz hT hTI st1 fun h' e hk he => ?_) (F.args_zip_next_1 _))))
    obtain ⟨o, ho, hc⟩ := he
    refine wpAny_bind (wpAny_isInstance (T := "StopIteration") (b := true) ⟨o, ho, hc⟩ isSubtype_stop ?_)
    exact wpAny_pure (hQ h' s.toks fun x o hx e => hk x o (fun q => hx (by simp [q])) (fun q => hx (by simp [q])) (fun q => hx (by simp [q])) e)
end
/-- zip(a, b) as the argument of dict() -/
theorem pairArgB {prog : Program} {w : World} (b c : Bool) (z TI TO i1 i2 l m : Addr) (S : ZipSep2 z TI TO i1 i2 [i1, l] [i2, m]) (hl : l ≠ i1) (hm : m ≠ i2) (xs ys : Array Value) (hlen : ys.size = xs.size) :
    PairArg prog w "zip" z [z, TI, TO, i1, i2, l, m] [z, TO, i1, i2] xs.size (fun i k v => xs[i]? = some k ∧ ys[i]? = some v)
      (fun h => ZSt b c l m z TI TO i1 i2 xs ys [] 0 h ∧ IsZip h z TI TO .none ∧ ∃ x y, IsTupOf2 h TO x y) where
  type := fun s ok => ⟨_, ok.2.1, rfl⟩
  notDict := by decide
  keep := fun h h' ok hk => ⟨ok.1.keep (by simp) fun x o _ e => hk x o e, hk _ _ ok.2.1, let ⟨x, y, e⟩ := ok.2.2; ⟨x, y, hk _ _ e⟩⟩
  there := fun h ok d hd => by
    obtain ⟨⟨hTI, ⟨a1, a2⟩, ⟨b1, b2⟩, _⟩, hz, x, y, hTO⟩ := ok
    obtain ⟨o1, h1, _⟩ := a1.obj
    obtain ⟨o2, h2, _⟩ := b1.obj
    obtain ⟨o3, h3⟩ := a2.obj
    obtain ⟨o4, h4⟩ := b2.obj
    simp only [List.mem_cons, List.not_mem_nil, or_false] at hd
    rcases hd with q | q | q | q | q | q | q
    all_goals rw [q]
    all_goals first | exact ⟨_, hz⟩ | exact ⟨_, hTI⟩ | exact ⟨_, hTO⟩ | exact ⟨_, h1⟩ | exact ⟨_, h2⟩ | exact ⟨_, h3⟩ | exact ⟨_, h4⟩
  sub := fun d hd => by simp at hd ⊢; rcases hd with q | q | q | q <;> simp [q]
  noKeys := fun A s Q E hA ok h => getAttrOr_miss_zip ok.2.1 rfl rfl rfl zip_no_keys (by decide +kernel) hA h
  iter := fun A s d Q E hA ok hd hdf h => by
    refine wpAny_pyIter_zip ok.2.1 (h z [z, TO, i1, i2] (fun i h => ZSt b c l m z TI TO i1 i2 xs ys [d] i h) s.heap s.toks ?_ ?_ (fun _ _ e => e) fun x hx => .inl hx)
    · exact {
        off := fun hm => hdf (by simp at hm ⊢; rcases hm with q | q | q | q <;> simp [q])
        frame := fun i h h' st k => st.keep (fun x hx => by rw [List.mem_singleton.mp hx]; exact hdf) fun x o hx e => k x o (fun q => hx (by simp [q])) e
        item := fun i s₁ Q₁ E₁ hi st hds hQ => by
          refine zst_item (A := A) hA S hl hm st (fun x hx => by rw [List.mem_singleton.mp hx]; exact hds) hi (by omega) fun x1 x2 h' tk e1 e2 st' hT hsz hk => ?_
          exact hQ s₁.heap.objs.size x1 x2 h' tk ⟨e1, e2⟩ (.inl ⟨_, hT, rfl, _, rfl⟩) st' hk
        done := fun s₁ Q₁ E₁ st hQ => zst_end (A := A) hA S hl hm st rfl hlen.symm hQ }
    · obtain ⟨⟨hTI, a, b', _⟩, hz, x, y, hTO⟩ := ok
      exact ⟨hTI, a, b', .inl ⟨hz, x, y, hTO⟩⟩
/-! ### dict(zip(..)) -/
def tDictZip (K : PySem.W.Frag) (b c : Bool) (ta : TA) : TE := fun σ H Q => ta σ H fun vs H1 => ∃ (l m : Addr) (ks : List Key) (ys : List V), vs = [.ref l, .ref m] ∧ SqB K b H1 l (ks.map kV) ∧ SqB K c H1 m ys ∧ ys.length = ks.length ∧
  ∀ d H2, Kp [] H1 H2 → H1 d = none → H2 d = some (.dK (mergeK [] (ks.zip ys))) → Q (.ref d) H2
theorem kv_zip : ∀ {ks : List Key} {ys : List V} {us : List Value}, Vals ys us → KV (ks.zip ys) (ks.zip us)
  | [], _, _, _ => .nil
  | k :: ks, _, _, .nil => .nil
  | k :: ks, _, _, .cons r t => .cons ⟨rfl, r⟩ (kv_zip t)
theorem pe_dictZip (b c : Bool) {X : Cx} {e e2 : Expr} {ta : TA} {p p2 pos pos2 : Pos} (hc : X.calm = true) (hg : Gl X "dict") (hm : X.mg "dict" = none) (hg2 : Gl X "zip") (hm2 : X.mg "zip" = none) (ha : PA X [e, e2] ta)
    (hs : starEach [e, e2] X.env = (false, eval e X.env) :: starEach [e2] X.env := by rfl) (hpl : (backTo pos2 (starEach [e2] X.env)).any (·.1) = false := by rfl)
    (hs2 : starEach [.Call (.Name "zip" p2) [e, e2] [] pos2] X.env = (false, eval (.Call (.Name "zip" p2) [e, e2] [] pos2) X.env) :: starEach [] X.env := by rfl) :
    PE X (.Call (.Name "dict" p) [.Call (.Name "zip" p2) [e, e2] [] pos2] [] pos) (tDictZip X.K b c ta) := by
  refine ⟨fun pins s σ H Q I h => ?_⟩
  refine wpAny_Call_Name_kw (ld_blt I hg hm PyProof.Rows.boot_dict ?_)
  refine PyProof.Rows.callWith_type1 ?_ hs2 rfl
  rw [hs2]
  show wpAny _ _ (spliced ((false, eval (.Call (.Name "zip" p2) [e, e2] [] pos2) X.env) :: backTo pos (starEach [] X.env))) _ _ s
  refine Calls.spliced_cons ?_
  refine wpAny_Call_Name_kw (ld_blt I hg2 hm2 PyProof.Rows.boot_zip (PyProof.Rows.callWith_type1 (thn (ha.run pos2 pins s σ H _ I h) fun us s1 ⟨vs, H1, I1, r1, q1⟩ => ?_) hs hpl))
  obtain ⟨l, m, ks, ys, ex, hqx, hqy, hlen, q1⟩ := q1
  subst ex
  cases r1 with
  | cons r rr =>
    cases rr with
    | cons r' rr =>
      cases rr
      cases r
      cases r'
      obtain ⟨its, rv, p1, hlz⟩ := SqB.get I1 hqx
      obtain ⟨its2, rv2, p2, hmz⟩ := SqB.get I1 hqy
      have ln1 : its.length = ks.length := by rw [← rv.length, List.length_map]
      have ln2 : its2.length = ks.length := by rw [← rv2.length, hlen]
      have hz0 : ks.length ≤ sizeLine := by
        cases c
        · obtain ⟨_, rv3, _, hz⟩ := I1.list (show SqL X.K H1 m ys from hqy)
          have := rv3.length
          omega
        · obtain ⟨_, rv3, _, hz⟩ := I1.tuple (show SqT X.K H1 m ys from hqy)
          have := rv3.length
          omega
      refine zip_begins2 (beginsB b l its.toArray) (beginsB c m its2.toArray) p1 p2 fun h' hz hTI hTO h1 h2 hsz hk => ?_
      have hD : ZipSep2 (s1.heap.objs.size + 4) (s1.heap.objs.size + 2) (s1.heap.objs.size + 3) s1.heap.objs.size (s1.heap.objs.size + 1) [s1.heap.objs.size, l] [s1.heap.objs.size + 1, m] :=
        zip_sep2 (fun b hb => by rw [List.mem_singleton.mp hb]; exact hlz) (fun b hb => by rw [List.mem_singleton.mp hb]; exact hmz)
      refine Calls.spliced_nil ?_
      refine PySem.call_dict_pairs (knd := mixKind X.prog X.w) (kvs := ks.zip its2) (pairArgB (prog := X.prog) (w := X.w) b c _ _ _ _ _ l m hD (Nat.ne_of_lt hlz) (Nat.ne_of_lt (Nat.lt_succ_of_lt hmz)) its.toArray its2.toArray (by simp; omega)) (I1.ok.hd hc)
        ⟨⟨hTI, ⟨StI.begin h1, p1.at fun o e => hk _ o e⟩, ⟨StI.begin h2, p2.at fun o e => hk _ o e⟩, .inl ⟨hz, _, _, hTO⟩⟩, hz, _, _, hTO⟩ ⟨by simp; omega, fun i key v hr => ?_⟩ (by simp; omega) fun h'' tk hd' hk' => ?_
      · obtain ⟨e1, e2⟩ := hr
        rw [List.getElem?_toArray] at e1 e2
        have hi : i < ks.length := by
          have := (List.getElem?_eq_some_iff.mp e1).1
          omega
        have hk3 : ks[i]? = some ks[i] := List.getElem?_eq_getElem hi
        obtain ⟨u, hu, ru⟩ := rv.get (i := i) (x := kV ks[i]) (by rw [List.getElem?_map, hk3]; rfl)
        rw [e1] at hu
        cases hu
        refine ⟨ks[i], ?_, kV_is ru⟩
        rw [List.getElem?_zip_eq_some]
        exact ⟨hk3, e2⟩
      · have keep : ∀ x o, s1.heap.get? x = some o → h''.get? x = some o := fun x o e => by
          have := Heap.lt_size e
          exact hk' x o (fun q => by
            have e' : x = s1.heap.objs.size + 4 ∨ x = s1.heap.objs.size + 3 ∨ x = s1.heap.objs.size ∨ x = s1.heap.objs.size + 1 := by simpa using q
            have hx : s1.heap.objs.size ≤ x := by
              rcases e' with z | z | z | z
              · rw [z]; exact Nat.le_add_right _ _
              · rw [z]; exact Nat.le_add_right _ _
              · rw [z]; exact Nat.le_refl _
              · rw [z]; exact Nat.le_add_right _ _
            exact absurd this (Nat.not_lt.mpr hx)) (hk x o e)
        have hb : s1.heap.objs.size ≤ h'.objs.size := by omega
        have hm0 : (h'.objs.size == sysModules) = false := beq_eq_false_iff_ne.mpr (Ne.symm (Nat.ne_of_lt (Nat.lt_of_lt_of_le I1.big hb)))
        have hlen2 : (mergeK [] (ks.zip ys)).length ≤ sizeLine := by
          refine Nat.le_trans (length_mergeK _ []) ?_
          simp
          omega
        refine ⟨.ref h'.objs.size, upd H1 h'.objs.size (.dK (mergeK [] (ks.zip ys))), I1.laid (t' := tk) keep hb (show ObjOk X.prog X.w _ _ _ (.dK _) from ⟨hlen2, hm0, merged [] (ks.zip its2), KV.merge (kv_zip rv2) .nil, hd'⟩), rfl, ?_⟩
        have hn := I1.hok.fresh hb
        exact q1 _ _ (Kp.new hn) hn upd_same
/-! ### dict(d) -/
def rDictOf : List V → Hp → VK → Prop := fun vs H Q => ∃ (a : Addr) (kvs : List (Key × V)), vs = [.ref a] ∧ H a = some (.dK kvs) ∧ ∀ d H2, Kp [] H H2 → H d = none → H2 d = some (.dK kvs) → Q (.ref d) H2
theorem call_dictOf {X : Cx} : CallR X (.type "dict") rDictOf := by
  intro pins s σ H xs us Q I r h
  obtain ⟨a, kvs, rfl, ha, q⟩ := h
  rw [Vals.ref1 r]
  exact d_copyOf I (.inl ha) fun p s' hp I' => ⟨.ref p, _, I', rfl, q p _ (Kp.new hp) hp upd_same⟩

/-! ### list(zip(..)) -/
theorem zip_no_len : typeLookup (.type "zip") "__len__" = pure none := am_miss_of_fast (by decide +kernel)
theorem zip_no_hint : typeLookup (.type "zip") "__length_hint__" = pure none := am_miss_of_fast (by decide +kernel)
/-- the tuples given out so far -/
structure ZG (xs ys : Array Value) (lo : Addr) (h : Heap) (as : List Addr) : Prop where
  rise : as.Pairwise fun a b : Addr => a < b
  above : ∀ a ∈ as, lo < a
  pairs : ∀ (j : Nat) (a : Addr), as[j]? = some a → ∃ x y, xs[j]? = some x ∧ ys[j]? = some y ∧ IsTupOf2 h a x y
section
variable {prog : Program} {w : World} {A : Around} {E : Value → Shared → Prop} {s : Shared} {R : Result → Shared → Prop} {b c : Bool} {l m z TI TO i1 i2 : Addr} {xs ys : Array Value}
theorem zl_loop {S : Addr} (hh : A.in1.in1.handled = none) (Z : ZipSep2 z TI TO i1 i2 [i1, l] [i2, m]) (hl : l ≠ i1) (hm : m ≠ i2) (hS : S ∉ [z, TI, TO, i1, i2, l, m]) (hlow : ∀ x ∈ [S, z, TO, i1, i2], x ≤ S) (hn : xs.size ≤ sizeLine) (hlen : ys.size = xs.size) (res : Value) {h₁ : Heap}
    (hR : ∀ (h' : Heap) (tk : Nat) (acc : Array Value) (c' : Nat) (as : List Addr), (∀ b o, b ∉ [S, z, TO, i1, i2] → h₁.get? b = some o → h'.get? b = some o) → h'.get? S = some { cls := .type "list", dict := none, data := .seq acc c', slots := #[] } → as.length = xs.size → ZG xs ys S h' as →
      acc.toList = as.map Value.ref → R (.ok (.ret res)) { s with heap := h', toks := tk }) :
    ∀ (k i : Nat) (h : Heap) (tk c' : Nat) (acc : Array Value) (as : List Addr), xs.size - i = k → i ≤ xs.size → ZSt b c l m z TI TO i1 i2 xs ys [S] i h → (∀ b o, b ∉ [S, z, TO, i1, i2] → h₁.get? b = some o → h.get? b = some o) →
      h.get? S = some { cls := .type "list", dict := none, data := .seq acc c', slots := #[] } → acc.toList = as.map Value.ref → as.length = i → ZG xs ys S h as → S < h.objs.size →
      codeAny (model prog w) A (.builtin "list.extend.loop" ⟨[.ref S, .ref z, res], []⟩) R { s with heap := h, toks := tk } := by
  have hSw : S ∉ [z, TO, i1, i2] := fun q => hS (by simp at q ⊢; rcases q with q | q | q | q <;> simp [q])
  have sub4 : ∀ x, x ∉ [S, z, TO, i1, i2] → x ∉ [z, TO, i1, i2] ∧ x ≠ S := fun x hx => ⟨fun q => hx (List.mem_cons_of_mem _ q), fun q => hx (by simp [q])⟩
  intro k
  induction k with
  | zero =>
    intro i h tk c' acc as hk hi hst hkeep hS0 hacc hal hG hIs
    have hin : i = xs.size := by omega
    refine codeAny_builtin PySem.F.entry_extend_loop ?_
    rw [Around.under_plainId PySem.F.plain_extend_loop _]
    show wpAny _ A.in1 (pyNext (.ref z) >>= _) _ _ _
    refine wpAny_bind (zst_end (s := { s with heap := h, toks := tk }) (A := A.in1) hh Z hl hm hst hin (by omega) fun h' tk' he => ?_)
    refine wpAny_pure (hR h' tk' acc c' as (fun x o hx e => he x o (sub4 x hx).1 (hkeep x o hx e)) (he S _ hSw hS0) (by omega) ⟨hG.rise, hG.above, fun j a hj => ?_⟩ hacc)
    obtain ⟨x, y, e1, e2, e3⟩ := hG.pairs j a hj
    have ha := hG.above a (List.mem_of_getElem? hj)
    exact ⟨x, y, e1, e2, he a _ (fun q => absurd (hlow a (List.mem_cons_of_mem _ q)) (Nat.not_le.mpr ha)) e3⟩
  | succ k ih =>
    intro i h tk c' acc as hk hi hst hkeep hS0 hacc hal hG hIs
    have hlt : i < xs.size := by omega
    have hsz : acc.size = i := by rw [← Array.length_toList, hacc, List.length_map, hal]
    have hSl : S < h.objs.size := Heap.lt_size hS0
    refine codeAny_builtin PySem.F.entry_extend_loop ?_
    rw [Around.under_plainId PySem.F.plain_extend_loop _]
    show wpAny _ A.in1 (pyNext (.ref z) >>= _) _ _ _
    refine wpAny_bind (zst_item (s := { s with heap := h, toks := tk }) (A := A.in1) hh Z hl hm hst (fun x hx => by rw [List.mem_singleton.mp hx]; exact hSl) hlt (by omega) fun x1 x2 h' tk' e1 e2 hst' ht hz hkp => ?_)
    dsimp only at ht hz hkp ⊢
    have hS' := hkp S _ hSw hS0
    have up : ∀ b o, b ≠ S → h'.get? b = some o → (h'.update S (Obj.mapSeq (·.push (Value.ref h.objs.size)))).get? b = some o := fun b o hb e => (Heap.get?_update_other _ _ (Ne.symm hb)).trans e
    show wpAny _ A.in1 (updateSeq S (·.push (Value.ref h.objs.size)) >>= _) _ _ _
    refine wpAny_bind ?_
    refine wpAny_updateSeq hS' rfl (wpAny_pure ⟨plainId_quiet PySem.F.plain_extend_loop _, ih (i + 1) _ tk' _ (acc.push (Value.ref h.objs.size)) (as ++ [h.objs.size]) (by omega) hlt (hst'.keep (fun x hx => by rw [List.mem_singleton.mp hx]; exact hS) fun x o hx e => up x o (fun q => hx (by simp [q])) e)
      (fun b o h1 e => up b o (sub4 b h1).2 (hkp b o (sub4 b h1).1 (hkeep b o h1 e))) (Heap.get?_update_self _ hS' rfl) (by rw [Array.toList_push, hacc, List.map_append]; rfl) (by rw [List.length_append, hal]; rfl) ⟨?_, ?_, ?_⟩ ?_⟩) (by rw [hsz]; omega) (by show (acc.push (Value.ref h.objs.size)).size ≤ sizeLine + 1; rw [Array.size_push, hsz]; omega)
    · refine List.pairwise_append.mpr ⟨hG.rise, List.pairwise_singleton _ _, fun a ha b hb => ?_⟩
      rw [List.mem_singleton.mp hb]
      obtain ⟨j, hj⟩ := List.getElem?_of_mem ha
      obtain ⟨_, _, _, _, e3⟩ := hG.pairs j a hj
      exact Heap.lt_size e3
    · intro a ha
      rcases List.mem_append.mp ha with ha | ha
      · exact hG.above a ha
      · rw [List.mem_singleton.mp ha]; exact hIs
    · intro j a hj
      rcases Nat.lt_trichotomy j as.length with h1 | h1 | h1
      · rw [List.getElem?_append_left h1] at hj
        obtain ⟨x, y, f1, f2, f3⟩ := hG.pairs j a hj
        have ha := hG.above a (List.mem_of_getElem? hj)
        exact ⟨x, y, f1, f2, up a _ (fun q => absurd (hlow a (by simp [q])) (Nat.not_le.mpr ha)) (hkp a _ (fun q => absurd (hlow a (List.mem_cons_of_mem _ q)) (Nat.not_le.mpr ha)) f3)⟩
      · subst h1
        have hb : h.objs.size = a := by simpa using hj
        subst hb
        exact ⟨x1, x2, by rw [hal]; exact e1, by rw [hal]; exact e2, up _ _ (Nat.ne_of_gt hSl) ht⟩
      · have hnone : (as ++ [h.objs.size])[j]? = none := List.getElem?_eq_none (by rw [List.length_append, List.length_singleton]; omega)
        rw [hnone] at hj; cases hj
    · have e : (h'.update S (Obj.mapSeq (·.push (Value.ref h.objs.size)))).get? h.objs.size = _ := up _ _ (Nat.ne_of_gt hSl) ht
      exact Nat.lt_trans hIs (Heap.lt_size e)
theorem zl_extend {S : Addr} (hh : A.in1.in1.handled = none) (Z : ZipSep2 z TI TO i1 i2 [i1, l] [i2, m]) (hl : l ≠ i1) (hm : m ≠ i2) (hS : S ∉ [z, TI, TO, i1, i2, l, m]) (hlow : ∀ x ∈ [S, z, TO, i1, i2], x ≤ S) (hn : xs.size ≤ sizeLine) (hlen : ys.size = xs.size) (res : Value) (c₀ : Nat)
    (hz : IsZip s.heap z TI TO .none) (st : ZSt b c l m z TI TO i1 i2 xs ys [S] 0 s.heap) (hS0 : s.heap.get? S = some { cls := .type "list", data := .seq #[] c₀ })
    (hR : ∀ (h' : Heap) (tk : Nat) (acc : Array Value) (c' : Nat) (as : List Addr), (∀ b o, b ∉ [S, z, TO, i1, i2] → s.heap.get? b = some o → h'.get? b = some o) → h'.get? S = some { cls := .type "list", dict := none, data := .seq acc c', slots := #[] } → as.length = xs.size → ZG xs ys S h' as →
      acc.toList = as.map Value.ref → R (.ok (.ret res)) { s with heap := h', toks := tk }) :
    wpAny (model prog w) A.in1 (Builtin.List.listExtendWith (.ref S) (.ref z) res)
      (fun fin s' => match fin with | .done f => R (.ok f) s' | .again c' => c'.quiet = true ∧ codeAny (model prog w) A c' R s') (fun e s' => R (.error e) s') s := by
  have hSz : S ≠ z := fun q => hS (by simp [q])
  have hT : s.TypeIs (.ref z) "zip" := ⟨_, hz, rfl⟩
  unfold Builtin.List.listExtendWith
  refine wpAny_bind (wpAny_typeOf hT ?_)
  have h1 : Builtin.List.listSameRef (.ref S) (.ref z) = false := by simp [Builtin.List.listSameRef, hSz]
  have h2 : (Value.type "zip" == Value.type "list") = false := by decide
  have h3 : (Value.type "zip" == Value.type "tuple") = false := by decide
  simp only [h1, h2, h3, Bool.or_false, Bool.false_eq_true, if_false]
  refine wpAny_bind (wpAny_pyIter_zip hz ?_)
  refine wpAny_bind (wpAny_holding ?_)
  unfold Builtin.List.listLengthHint
  refine wpAny_bind (wpAny_specialOf hT zip_no_len ?_)
  show wpAny _ A.in1 (specialOf (Value.ref z) (Str.ofString "__length_hint__") >>= _) _ _ _
  refine wpAny_bind (wpAny_specialOf hT zip_no_hint ?_)
  refine wpAny_pure ?_
  show wpAny _ A.in1 (rule "list.extend.makes-room" >>= fun _ => Builtin.List.listTouch (.ref S) >>= fun _ =>
    again (.builtin "list.extend.loop" ⟨[.ref S, .ref z, res], []⟩)) _ _ _
  refine wpAny_bind (wpAny_rule ?_)
  refine wpAny_bind ?_
  show wpAny _ A.in1 (updateSeq S (·.push .none) >>= fun _ => updateSeq S (·.pop)) _ _ _
  refine wpAny_bind (wpAny_updateSeq hS0 rfl ?_)
  have hS₂ := Heap.get?_update_self (Obj.mapSeq (·.push Value.none)) hS0 rfl
  refine wpAny_updateSeq (hz := by seq_fits) hS₂ rfl ?_
  have hS₃ := Heap.get?_update_self (Obj.mapSeq (·.pop)) hS₂ rfl
  have oth : ∀ b o, b ≠ S → s.heap.get? b = some o → ((s.heap.update S (Obj.mapSeq (·.push Value.none))).update S (Obj.mapSeq (·.pop))).get? b = some o :=
    fun b o hb e => (Heap.get?_update_other _ _ (Ne.symm hb)).trans ((Heap.get?_update_other _ _ (Ne.symm hb)).trans e)
  refine wpAny_pure ⟨plainId_quiet PySem.F.plain_extend_loop _, zl_loop (s := s) (h₁ := s.heap) hh Z hl hm hS hlow hn hlen res hR xs.size 0 _ s.toks _ #[] [] (Nat.sub_zero _) (Nat.zero_le _)
    (st.keep (fun x hx => by rw [List.mem_singleton.mp hx]; exact hS) fun x o hx e => oth x o (fun q => hx (by simp [q])) e) (fun b o hb e => oth b o (fun q => hb (by simp [q])) e) hS₃ rfl rfl ⟨List.Pairwise.nil, (fun _ ha => nomatch ha), (fun j a hj => by simp at hj)⟩ (Heap.lt_size hS₃)⟩
theorem zl_call {Q : Value → Shared → Prop} (hh : A.handled = none) (Z : ZipSep2 z TI TO i1 i2 [i1, l] [i2, m]) (hl : l ≠ i1) (hm : m ≠ i2) (hn : xs.size ≤ sizeLine) (hlen : ys.size = xs.size) (hz : IsZip s.heap z TI TO .none) (st : ZSt b c l m z TI TO i1 i2 xs ys [] 0 s.heap)
    (hall : ∀ x ∈ [z, TI, TO, i1, i2, l, m], x < s.heap.objs.size)
    (hQ : ∀ (h' : Heap) (tk : Nat) (acc : Array Value) (c' : Nat) (as : List Addr), (∀ b o, b ∉ [z, TO, i1, i2] → s.heap.get? b = some o → h'.get? b = some o) → h'.get? s.heap.objs.size = some { cls := .type "list", dict := none, data := .seq acc c', slots := #[] } → as.length = xs.size → ZG xs ys s.heap.objs.size h' as →
      acc.toList = as.map Value.ref → Q (.ref s.heap.objs.size) { s with heap := h', toks := tk }) :
    wpAny (model prog w) A (call (.type "list") [.ref z]) Q E s := by
  refine callType_codes (Q₁ := fun obj s₁ => obj = .ref s.heap.objs.size ∧ s₁ = { s with heap := s.heap.push { cls := .type "list", data := .seq #[] } }) PySem.F.called_list (PySem.F.typeCall_list_1 _) PySem.F.entry_list_init
    (code_list_new _ ⟨rfl, rfl⟩) fun obj s₁ h₁ => ?_
  obtain ⟨rfl, rfl⟩ := h₁
  have hS : (s.heap.push { cls := .type "list", data := .seq #[] }).get? s.heap.objs.size = some { cls := .type "list", data := .seq #[] } := Heap.get?_push_size _ rfl
  have hoff : s.heap.objs.size ∉ [z, TI, TO, i1, i2, l, m] := fun q => Nat.lt_irrefl _ (hall _ q)
  refine ⟨⟨_, hS, rfl⟩, PySem.F.args_list_init_2 _ _, ?_⟩
  show wpAny _ _ (do let old ← Builtin.List.listItems (.ref s.heap.objs.size); Builtin.List.listUpdate (.ref s.heap.objs.size) (fun _ => #[]); letGo old.toList.reverse; Builtin.List.listExtendWith (.ref s.heap.objs.size) (.ref z) .none) _ _ _
  refine wpAny_bind ?_
  unfold Builtin.List.listItems
  refine wpAny_bind (wpAny_seqItems hS rfl (wpAny_pure ?_))
  show wpAny _ _ (updateSeq s.heap.objs.size (fun _ => #[]) >>= fun _ => letGo (#[] : Array Value).toList.reverse >>= fun _ => Builtin.List.listExtendWith (.ref s.heap.objs.size) (.ref z) .none) _ _ _
  refine wpAny_bind (wpAny_updateSeq hS rfl ?_)
  have hS₂ := Heap.get?_update_self (Obj.mapSeq (fun _ => (#[] : Array Value))) hS rfl
  have oth : ∀ b o, b ≠ s.heap.objs.size → (s.heap.push { cls := .type "list", data := .seq #[] }).get? b = some o → ((s.heap.push { cls := .type "list", data := .seq #[] }).update s.heap.objs.size (Obj.mapSeq (fun _ => (#[] : Array Value)))).get? b = some o :=
    fun b o hb e => (Heap.get?_update_other _ _ (Ne.symm hb)).trans e
  have up : ∀ b o, s.heap.get? b = some o → ((s.heap.push { cls := .type "list", data := .seq #[] }).update s.heap.objs.size (Obj.mapSeq (fun _ => (#[] : Array Value)))).get? b = some o := fun b o e => oth b o (Nat.ne_of_lt (Heap.lt_size e)) (Heap.get?_push_of_some _ e)
  refine wpAny_bind (wpAny_letGo ?_)
  have st2 : ZSt b c l m z TI TO i1 i2 xs ys [s.heap.objs.size] 0 s.heap := by
    obtain ⟨a1, a2, a3, hzz⟩ := st
    refine ⟨a1, a2, a3, ?_⟩
    rcases hzz with hzz | ⟨T, f, oT, g1, g2, g3, g4, g5, g6⟩
    · exact .inl hzz
    · exact .inr ⟨T, f, oT, g1, g2, g3, g4, g5, fun q => Nat.lt_irrefl _ (by rw [List.mem_singleton.mp q] at g2; exact Heap.lt_size g2)⟩
  refine zl_extend (A := A.in1) hh Z hl hm hoff (fun x hx => ?_) hn hlen .none _ (up _ _ hz) (st2.keep (fun x hx => by rw [List.mem_singleton.mp hx]; exact hoff) fun x o hx e => up x o e) hS₂ fun h' tk acc c' as hk hS' hl' hG hacc => ?_
  · rcases List.mem_cons.mp hx with q | q
    · rw [q]; exact Nat.le_refl _
    · exact Nat.le_of_lt (hall x (by simp at q ⊢; rcases q with q | q | q | q <;> simp [q]))
  · exact ⟨rfl, hQ h' tk acc c' as (fun b o hb e => hk b o (fun q => by
      rcases List.mem_cons.mp q with q | q
      · rw [q] at e; exact Nat.lt_irrefl _ (Heap.lt_size e)
      · exact hb q) (up b o e)) hS' hl' hG hacc⟩
end
def putP : Hp → List Addr → List (V × V) → Hp
  | H, a :: as, p :: ps => putP (upd H a (.tup [p.1, p.2])) as ps
  | H, _, _ => H
theorem putP_off {b : Addr} : ∀ (as : List Addr) (ps : List (V × V)) (H : Hp), b ∉ as → putP H as ps b = H b
  | [], _, _, _ => rfl
  | _ :: _, [], _, _ => rfl
  | a :: as, p :: ps, H, h => by
    show putP (upd H a (.tup [p.1, p.2])) as ps b = H b
    rw [putP_off as ps _ (fun z => h (List.mem_cons_of_mem _ z)), upd_ne (fun z => h (by rw [z]; exact List.mem_cons_self))]
theorem putP_at : ∀ (as : List Addr) (ps : List (V × V)) (H : Hp), as.length = ps.length → as.Nodup → Paired (fun (t : Addr) (p : V × V) => putP H as ps t = some (.tup [p.1, p.2])) as ps
  | [], [], _, _, _ => .nil
  | [], _ :: _, _, h, _ => by simp at h
  | _ :: _, [], _, h, _ => by simp at h
  | a :: as, p :: ps, H, h, nd => by
    obtain ⟨n1, n2⟩ := List.nodup_cons.mp nd
    refine .cons ?_ (putP_at as ps _ (by simpa using h) n2)
    show putP (upd H a (.tup [p.1, p.2])) as ps a = _
    rw [putP_off as ps _ n1, upd_same]
def tListZip (K : PySem.W.Frag) (b c : Bool) (ta : TA) : TE := fun σ H Q => ta σ H fun vs H1 => ∃ (l m : Addr) (xs ys : List V), vs = [.ref l, .ref m] ∧ SqB K b H1 l xs ∧ SqB K c H1 m ys ∧ ys.length = xs.length ∧
  ∀ p (ts : List Addr) H2, Kp [] H1 H2 → H1 p = none → H2 p = some (.lst (ts.map V.ref)) → Paired (fun (t : Addr) (q : V × V) => H2 t = some (.tup [q.1, q.2])) ts (xs.zip ys) → Q (.ref p) H2
theorem pe_listZip (b c : Bool) {X : Cx} {e e2 : Expr} {ta : TA} {p p2 pos pos2 : Pos} (hc : X.calm = true) (hg : Gl X "list") (hm : X.mg "list" = none) (hg2 : Gl X "zip") (hm2 : X.mg "zip" = none) (ha : PA X [e, e2] ta)
    (hs : starEach [e, e2] X.env = (false, eval e X.env) :: starEach [e2] X.env := by rfl) (hpl : (backTo pos2 (starEach [e2] X.env)).any (·.1) = false := by rfl)
    (hs2 : starEach [.Call (.Name "zip" p2) [e, e2] [] pos2] X.env = (false, eval (.Call (.Name "zip" p2) [e, e2] [] pos2) X.env) :: starEach [] X.env := by rfl) :
    PE X (.Call (.Name "list" p) [.Call (.Name "zip" p2) [e, e2] [] pos2] [] pos) (tListZip X.K b c ta) := by
  refine ⟨fun pins s σ H Q I h => ?_⟩
  refine wpAny_Call_Name_kw (ld_blt I hg hm PyProof.Rows.boot_list ?_)
  refine PyProof.Rows.callWith_type1 ?_ hs2 rfl
  rw [hs2]
  show wpAny _ _ (spliced ((false, eval (.Call (.Name "zip" p2) [e, e2] [] pos2) X.env) :: backTo pos (starEach [] X.env))) _ _ s
  refine Calls.spliced_cons ?_
  refine wpAny_Call_Name_kw (ld_blt I hg2 hm2 PyProof.Rows.boot_zip (PyProof.Rows.callWith_type1 (thn (ha.run pos2 pins s σ H _ I h) fun us s1 ⟨vs, H1, I1, r1, q1⟩ => ?_) hs hpl))
  obtain ⟨l, m, xs, ys, ex, hqx, hqy, hlen, q1⟩ := q1
  subst ex
  cases r1 with
  | cons r rr =>
    cases rr with
    | cons r' rr =>
      cases rr
      cases r
      cases r'
      obtain ⟨its, rv, p1, hlz⟩ := SqB.get I1 hqx
      obtain ⟨its2, rv2, p2, hmz⟩ := SqB.get I1 hqy
      have ln1 : its.length = xs.length := rv.length.symm
      have ln2 : its2.length = xs.length := by rw [← rv2.length, hlen]
      have hz0 : xs.length ≤ sizeLine := by
        cases c
        · obtain ⟨_, rv3, _, hz⟩ := I1.list (show SqL X.K H1 m ys from hqy)
          have := rv3.length
          omega
        · obtain ⟨_, rv3, _, hz⟩ := I1.tuple (show SqT X.K H1 m ys from hqy)
          have := rv3.length
          omega
      refine zip_begins2 (beginsB b l its.toArray) (beginsB c m its2.toArray) p1 p2 fun h' hz hTI hTO h1 h2 hsz hk => ?_
      have hD : ZipSep2 (s1.heap.objs.size + 4) (s1.heap.objs.size + 2) (s1.heap.objs.size + 3) s1.heap.objs.size (s1.heap.objs.size + 1) [s1.heap.objs.size, l] [s1.heap.objs.size + 1, m] :=
        zip_sep2 (fun b hb => by rw [List.mem_singleton.mp hb]; exact hlz) (fun b hb => by rw [List.mem_singleton.mp hb]; exact hmz)
      have p1' := p1.at fun o e => hk _ o e
      have p2' := p2.at fun o e => hk _ o e
      have sh1 : StI b h' s1.heap.objs.size l 0 := StI.begin h1
      have sh2 : StI c h' (s1.heap.objs.size + 1) m 0 := StI.begin h2
      refine Calls.spliced_nil ?_
      refine zl_call (s := { s1 with heap := h' }) (b := b) (c := c) (l := l) (m := m) (xs := its.toArray) (ys := its2.toArray) (I1.ok.hd hc) hD (Nat.ne_of_lt hlz) (Nat.ne_of_lt (Nat.lt_succ_of_lt hmz)) (by simp; omega) (by simp; omega) hz ⟨hTI, ⟨sh1, p1'⟩, ⟨sh2, p2'⟩, .inl ⟨hz, _, _, hTO⟩⟩ ?_ fun h'' tk acc c' as hk' hS' hal hG hacc => ?_
      · intro x hx
        have hx : x = s1.heap.objs.size + 4 ∨ x = s1.heap.objs.size + 2 ∨ x = s1.heap.objs.size + 3 ∨ x = s1.heap.objs.size ∨ x = s1.heap.objs.size + 1 ∨ x = l ∨ x = m := by simpa using hx
        show x < h'.objs.size
        rcases hx with q | q | q | q | q | q | q
        · rw [q]; exact Heap.lt_size hz
        · rw [q]; exact Heap.lt_size hTI
        · rw [q]; exact Heap.lt_size hTO
        · rw [q]; obtain ⟨_, e, _⟩ := sh1.obj; exact Heap.lt_size e
        · rw [q]; obtain ⟨_, e, _⟩ := sh2.obj; exact Heap.lt_size e
        · rw [q]; obtain ⟨_, e⟩ := p1'.obj; exact Heap.lt_size e
        · rw [q]; obtain ⟨_, e⟩ := p2'.obj; exact Heap.lt_size e
      · have keep : ∀ x o, s1.heap.get? x = some o → h''.get? x = some o := fun x o e => by
          have := Heap.lt_size e
          exact hk' x o (fun q => by
            have e' : x = s1.heap.objs.size + 4 ∨ x = s1.heap.objs.size + 3 ∨ x = s1.heap.objs.size ∨ x = s1.heap.objs.size + 1 := by simpa using q
            have hx : s1.heap.objs.size ≤ x := by
              rcases e' with z | z | z | z
              · rw [z]; exact Nat.le_add_right _ _
              · rw [z]; exact Nat.le_add_right _ _
              · rw [z]; exact Nat.le_refl _
              · rw [z]; exact Nat.le_add_right _ _
            exact absurd this (Nat.not_lt.mpr hx)) (hk x o e)
        have hb : s1.heap.objs.size ≤ h'.objs.size := by omega
        have hSn : h'.objs.size ∉ as := fun z => Nat.lt_irrefl _ (hG.above _ z)
        have nd : as.Nodup := List.Pairwise.imp (fun {a b} (h : a < b) => Nat.ne_of_lt h) hG.rise
        have lo : ∀ t ∈ as, s1.heap.objs.size ≤ t := fun t ht => Nat.le_trans hb (Nat.le_of_lt (hG.above t ht))
        have new : ∀ t ∈ as, H1 t = none := fun t ht => I1.hok.fresh (lo t ht)
        have newS : H1 h'.objs.size = none := I1.hok.fresh hb
        have lz : as.length = (xs.zip ys).length := by rw [hal]; simp; omega
        have atP := putP_at as (xs.zip ys) (upd H1 h'.objs.size (.lst (as.map V.ref))) lz nd
        have off : ∀ b, b ∉ as → b ≠ h'.objs.size → putP (upd H1 h'.objs.size (.lst (as.map V.ref))) as (xs.zip ys) b = H1 b := fun b h1 h2 => by rw [putP_off as _ _ h1, upd_ne h2]
        have low : ∀ b o, s1.heap.get? b = some o → b ∉ as ∧ b ≠ h'.objs.size := fun b o e => ⟨fun z => absurd (Heap.lt_size e) (Nat.not_lt.mpr (lo b z)), fun z => absurd (Heap.lt_size e) (Nat.not_lt.mpr (by rw [z]; exact hb))⟩
        have kp : ∀ b u, H1 b = some u → (putP (upd H1 h'.objs.size (.lst (as.map V.ref))) as (xs.zip ys)) b = some u := fun b u e => by
          rw [off b (fun z => by rw [new b z] at e; cases e) (fun z => by rw [z, newS] at e; cases e)]
          exact e
        have eS : putP (upd H1 h'.objs.size (.lst (as.map V.ref))) as (xs.zip ys) h'.objs.size = some (.lst (as.map V.ref)) := by rw [putP_off as _ _ hSn, upd_same]
        have J : Inv X pins σ (putP (upd H1 h'.objs.size (.lst (as.map V.ref))) as (xs.zip ys)) { s1 with heap := h'', toks := tk } := by
          refine I1.call' (ch := []) rfl ⟨fun b o q _ _ _ => keep b o q, fun b o q _ _ _ => ⟨o.slots, keep b o q⟩, fun b o q n _ => ?_, fun b o q _ => ⟨o, keep b o q⟩, fun b xs q => kp b _ q, fun b o u q => kp b _ q, fun b ps q => ⟨#[], by rw [kp b _ q]; simp⟩⟩ (fun b u q => ?_) I1.bare fun b z => by simp at z
          · obtain ⟨z1, z2⟩ := low b o q
            rw [off b z1 z2]
            exact n
          · by_cases hbm : b ∈ as
            · obtain ⟨j, pk, e1, e2, e3⟩ := LiI.paired_ix atP hbm
              rw [e3] at q
              cases q
              obtain ⟨x, y, f1, f2, f3⟩ := hG.pairs j b e1
              rw [List.getElem?_toArray] at f1 f2
              rw [List.getElem?_zip_eq_some] at e2
              obtain ⟨u1, g1, g2⟩ := rv.get e2.1
              obtain ⟨u2, g3, g4⟩ := rv2.get e2.2
              rw [f1] at g1
              rw [f2] at g3
              cases g1
              cases g3
              exact ⟨by show 2 ≤ sizeLine; decide, [x, y], .cons g2 (.cons g4 .nil), ⟨_, f3, rfl, _, rfl⟩⟩
            · by_cases hb2 : b = h'.objs.size
              · rw [hb2] at q ⊢
                rw [eS] at q
                cases q
                refine ⟨by rw [List.length_map, hal]; simp; omega, acc.toList, c', by rw [hacc]; exact LiI.vals_refs as, ?_⟩
                rw [Array.toArray_toList]
                exact hS'
              · rw [off b hbm hb2] at q
                exact (I1.hok b u q).stay (fun d v _ y => keep d v y) (fun d y => kp d _ y) fun d xs y => kp d _ y
        refine ⟨.ref _, _, J, rfl, q1 _ as _ ⟨fun b o e _ => kp b o e, fun b xs e => kp b _ e, fun b o e => ⟨o, kp b o e⟩⟩ newS eS atP⟩
end Tp
set_option Elab.async false
set_option linter.all false
set_option maxRecDepth 100000
set_option maxHeartbeats 4000000
namespace Tp
open PySem PySem.Spec PyProof.Rows L2

/-! ### the demands of a tree, plainly -/
abbrev Row := Pl × Kd × Kd
def rowD (r : Row) : PyData := .tuple [pl r.1, kd r.2.1, kd r.2.2]
abbrev Env' := Str → Option Kd
def Env'.put (e : Env') (x : Str) (k : Kd) : Env' := fun y => if y = x then some k else e y
abbrev Tab' := Str → Option (List Kd × Kd)
abbrev an (n : Nat) : Kd := .any (n : Int)
mutual
def sz : Tree → Nat
  | .num _ _ => 1
  | .nil _ => 1
  | .use _ _ as => 1 + szs as
  | .op _ _ l r => 1 + (sz l + sz r)
  | .ite _ c y n => 1 + (sz c + (sz y + sz n))
  | .lt _ _ a b => 1 + (sz a + sz b)
  | .cs _ w e _ _ b => 1 + (sz w + (sz e + sz b))
def szs : List Tree → Nat
  | [] => 0
  | t :: ts => sz t + szs ts
end
def genArgs (f : Tree → Nat → List Row × Nat) (p : Pl) : List Kd → List Tree → Nat → List Row × Nat
  | k :: ks, t :: ts, c => ((f t c).1 ++ (p, k, an c) :: (genArgs f p ks ts (f t c).2).1, (genArgs f p ks ts (f t c).2).2)
  | _, _, c => ([], c)
def genOp (p : Pl) (s : Str) (o l r : Kd) : List Row :=
  if s = ":" then [(p, r, .lst l), (p, o, r)] else (p, o, .num) :: if s = "==" then [] else [(p, l, .num), (p, r, .num)]
/-- the rows that kind_of adds, and the count behind it; the own kind is any c -/
def gen (tb : Tab') : Nat → Tree → Env' → Nat → List Row × Nat
  | 0, _, _, c => ([], c)
  | n + 1, t, near, c =>
    match t with
    | .num p _ => ([(p, an c, .num)], c + 1)
    | .nil p => ([(p, an c, .lst (an (c + 1)))], c + 2)
    | .use p x as =>
      match near x with
      | some k => ([(p, an c, k)], c + 1)
      | none =>
        match tb x with
        | some (ks, k) => ((genArgs (fun t c => gen tb n t near c) p ks as (c + 1)).1 ++ [(p, an c, k)], (genArgs (fun t c => gen tb n t near c) p ks as (c + 1)).2)
        | none => ([], c + 1)
    | .op p s l r =>
      ((gen tb n l near (c + 1)).1 ++ ((gen tb n r near (gen tb n l near (c + 1)).2).1 ++ genOp p s (an c) (an (c + 1)) (an (gen tb n l near (c + 1)).2)), (gen tb n r near (gen tb n l near (c + 1)).2).2)
    | .ite p x y z =>
      let a := gen tb n x near (c + 1)
      let b := gen tb n y near a.2
      let d := gen tb n z near b.2
      (a.1 ++ (b.1 ++ (d.1 ++ [(p, an (c + 1), .num), (p, an c, an a.2), (p, an c, an b.2)])), d.2)
    | .lt p x a b =>
      let A := gen tb n a near (c + 2)
      let B := gen tb n b (near.put x (an (c + 1))) A.2
      (A.1 ++ ((p, an (c + 1), an (c + 2)) :: (B.1 ++ [(p, an c, an A.2)])), B.2)
    | .cs p w e h t b =>
      let W := gen tb n w near (c + 3)
      let E := gen tb n e near W.2
      let B := gen tb n b ((near.put h (an (c + 1))).put t (an (c + 2))) E.2
      (W.1 ++ ((p, an (c + 3), .lst (an (c + 1))) :: (p, an (c + 2), an (c + 3)) :: (E.1 ++ ((p, an c, an W.2) :: (B.1 ++ [(p, an c, an E.2)])))), B.2)
theorem genArgs_len {f : Tree → Nat → List Row × Nat} {p : Pl} (h : ∀ t c, (f t c).1.length + 1 ≤ 6 * sz t) : ∀ (ks : List Kd) (ts : List Tree) (c : Nat), (genArgs f p ks ts c).1.length ≤ 6 * szs ts
  | [], _, _ => by simp [genArgs]
  | _ :: _, [], _ => by simp [genArgs]
  | k :: ks, t :: ts, c => by
    have h1 := h t c
    have h2 := genArgs_len (p := p) h ks ts (f t c).2
    simp only [genArgs, List.length_append, List.length_cons, szs]
    omega
theorem genOp_len (p : Pl) (s : Str) (o l r : Kd) : (genOp p s o l r).length ≤ 3 := by
  unfold genOp
  split <;> simp
  split <;> simp
theorem gen_len (tb : Tab') : ∀ (n : Nat) (t : Tree) (near : Env') (c : Nat), (gen tb n t near c).1.length + 1 ≤ 6 * sz t
  | 0, t, near, c => by
    have : 1 ≤ sz t := by cases t <;> simp [sz]
    simp [gen]
    omega
  | n + 1, t, near, c => by
    have ih := fun t near c => gen_len tb n t near c
    cases t with
    | num p i => simp [gen, sz]
    | nil p => simp [gen, sz]
    | use p x as =>
      simp only [gen]
      split
      · simp [sz]; omega
      · split
        · rename_i ks k hk
          have : (genArgs (fun t c => gen tb n t near c) p ks as (c + 1)).1.length ≤ 6 * szs as := genArgs_len (fun t c => ih t near c) ks as (c + 1)
          simp only [List.length_append, List.length_cons, List.length_nil, sz]
          omega
        · simp [sz]; omega
    | op p s l r =>
      have h1 := ih l near (c + 1)
      have h2 := ih r near (gen tb n l near (c + 1)).2
      have h3 := genOp_len p s (an c) (an (c + 1)) (an (gen tb n l near (c + 1)).2)
      simp only [gen, List.length_append, sz]
      omega
    | ite p x y z =>
      have h1 := ih x near (c + 1)
      have h2 := ih y near (gen tb n x near (c + 1)).2
      have h3 := ih z near (gen tb n y near (gen tb n x near (c + 1)).2).2
      simp only [gen, List.length_append, List.length_cons, List.length_nil, sz]
      omega
    | lt p x a b =>
      have h1 := ih a near (c + 2)
      have h2 := ih b (near.put x (an (c + 1))) (gen tb n a near (c + 2)).2
      simp only [gen, List.length_append, List.length_cons, List.length_nil, sz]
      omega
    | cs p w e h t b =>
      have h1 := ih w near (c + 3)
      have h2 := ih e near (gen tb n w near (c + 3)).2
      have h3 := ih b ((near.put h (an (c + 1))).put t (an (c + 2))) (gen tb n e near (gen tb n w near (c + 3)).2).2
      simp only [gen, List.length_append, List.length_cons, List.length_nil, sz]
      omega
theorem sz_pos (t : Tree) : 1 ≤ sz t := by cases t <;> simp [sz]
theorem szs_eq : ∀ t : Tree, sz t = 1 + szs t.subs
  | .num _ _ => by simp [sz, szs, Tree.subs]
  | .nil _ => by simp [sz, szs, Tree.subs]
  | .use _ _ _ => by simp [sz, Tree.subs]
  | .op _ _ _ _ => by simp [sz, szs, Tree.subs]
  | .ite _ _ _ _ => by simp [sz, szs, Tree.subs]
  | .lt _ _ _ _ => by simp [sz, szs, Tree.subs]
  | .cs _ _ _ _ _ _ => by simp [sz, szs, Tree.subs]
theorem szs_take : ∀ {ts : List Tree} {i : Nat} {t : Tree}, ts[i]? = some t → szs (ts.take i) + sz t ≤ szs ts
  | [], _, _, h => by simp at h
  | u :: ts, 0, t, h => by
    simp at h
    subst h
    simp [szs]
  | u :: ts, i + 1, t, h => by
    have := szs_take (ts := ts) (i := i) (t := t) (by simpa using h)
    simp only [List.take_succ_cons, szs]
    omega
/-- one after the other -/
def gens (tb : Tab') (n : Nat) (near : Env') : List Tree → Nat → List Row × List Kd × Nat
  | [], c => ([], [], c)
  | t :: ts, c => ((gen tb n t near c).1 ++ (gens tb n near ts (gen tb n t near c).2).1, an c :: (gens tb n near ts (gen tb n t near c).2).2.1, (gens tb n near ts (gen tb n t near c).2).2.2)
theorem gens_snoc (tb : Tab') (n : Nat) (near : Env') (t : Tree) : ∀ (ts : List Tree) (c : Nat), gens tb n near (ts ++ [t]) c =
    ((gens tb n near ts c).1 ++ (gen tb n t near (gens tb n near ts c).2.2).1, (gens tb n near ts c).2.1 ++ [an (gens tb n near ts c).2.2], (gen tb n t near (gens tb n near ts c).2.2).2)
  | [], c => by simp [gens]
  | u :: ts, c => by
    simp only [List.cons_append, gens, gens_snoc tb n near t ts]
    simp
theorem gens_len (tb : Tab') (n : Nat) (near : Env') : ∀ (ts : List Tree) (c : Nat), (gens tb n near ts c).1.length ≤ 6 * szs ts
  | [], c => by simp [gens]
  | t :: ts, c => by
    have h1 := gen_len tb n t near c
    have h2 := gens_len tb n near ts (gen tb n t near c).2
    simp only [gens, szs, List.length_append]
    omega
/-! ### a program's demands -/
def headOf (c : Nat) (d : Df) : List Kd × Kd := ((List.range d.params.length).map (fun j => an (c + j)), an (c + d.params.length))
def heads : List Df → Nat → List (List Kd × Kd) × Nat
  | [], c => ([], c)
  | d :: ds, c => (headOf c d :: (heads ds (c + d.params.length + 1)).1, (heads ds (c + d.params.length + 1)).2)
theorem heads_snoc (d : Df) : ∀ (ds : List Df) (c : Nat), heads (ds ++ [d]) c = ((heads ds c).1 ++ [headOf (heads ds c).2 d], (heads ds c).2 + d.params.length + 1)
  | [], c => by simp [heads]
  | e :: ds, c => by
    simp only [List.cons_append, heads, heads_snoc d ds]
theorem heads_len : ∀ (ds : List Df) (c : Nat), (heads ds c).1.length = ds.length
  | [], c => by simp [heads]
  | e :: ds, c => by simp [heads, heads_len ds]
def tbOf (ds : List Df) (hs : List (List Kd × Kd)) : Tab' := fun x => ((ds.zip hs).find? fun q => q.1.name == x).map (·.2)
theorem tbOf_snoc {ds : List Df} {hs : List (List Kd × Kd)} (hl : hs.length = ds.length) (d : Df) (h : List Kd × Kd) (nd : d.name ∉ ds.map Df.name) (x : Str) : tbOf (ds ++ [d]) (hs ++ [h]) x = if x = d.name then some h else tbOf ds hs x := by
  unfold tbOf
  rw [List.zip_append hl.symm, List.find?_append]
  by_cases hx : x = d.name
  · subst hx
    rw [if_pos rfl]
    have e : (ds.zip hs).find? (fun q => q.1.name == d.name) = none := by
      rw [List.find?_eq_none]
      intro q hq
      have := List.mem_map_of_mem (f := fun q : Df × (List Kd × Kd) => q.1) hq
      have h1 : q.1 ∈ ds := (List.of_mem_zip hq).1
      simp
      intro e
      exact nd (List.mem_map.mpr ⟨q.1, h1, e⟩)
    rw [e]
    simp
  · rw [if_neg hx]
    cases (ds.zip hs).find? (fun q => q.1.name == x) with
    | some q => simp
    | none =>
      simp
      exact fun e => hx e.symm
/-- params to kinds -/
def envOf (ps : List Str) (ks : List Kd) : Env' := (ps.zip ks).foldl (fun e q => e.put q.1 q.2) fun _ => none
def genDs (tb : Tab') : List Df → List (List Kd × Kd) → Nat → List Row × Nat
  | d :: ds, h :: hs, c => ((gen tb 10 d.body (envOf d.params h.1) c).1 ++ (d.p, h.2, an c) :: (genDs tb ds hs (gen tb 10 d.body (envOf d.params h.1) c).2).1, (genDs tb ds hs (gen tb 10 d.body (envOf d.params h.1) c).2).2)
  | _, _, c => ([], c)
theorem genDs_snoc (tb : Tab') (d : Df) (h : List Kd × Kd) : ∀ (ds : List Df) (hs : List (List Kd × Kd)) (c : Nat), ds.length = hs.length → genDs tb (ds ++ [d]) (hs ++ [h]) c =
    ((genDs tb ds hs c).1 ++ ((gen tb 10 d.body (envOf d.params h.1) (genDs tb ds hs c).2).1 ++ [(d.p, h.2, an (genDs tb ds hs c).2)]), (gen tb 10 d.body (envOf d.params h.1) (genDs tb ds hs c).2).2)
  | [], [], c, _ => by simp [genDs]
  | [], _ :: _, _, h => by simp at h
  | _ :: _, [], _, h => by simp at h
  | e :: ds, g :: hs, c, hl => by
    have := genDs_snoc tb d h ds hs (gen tb 10 e.body (envOf e.params g.1) c).2 (by simpa using hl)
    simp only [List.cons_append, genDs, this]
    simp
def szP (p : List Df) : Nat := (p.map fun d => sz d.body + 1).sum
theorem szP_take : ∀ {p : List Df} {i : Nat} {d : Df}, p[i]? = some d → szP (p.take i) + (sz d.body + 1) ≤ szP p
  | [], _, _, h => by simp at h
  | u :: ts, 0, t, h => by
    simp at h
    subst h
    simp [szP]
  | u :: ts, i + 1, t, h => by
    have := szP_take (p := ts) (i := i) (d := t) (by simpa using h)
    simp only [szP, List.take_succ_cons, List.map_cons, List.sum_cons] at this ⊢
    omega
theorem genDs_len (tb : Tab') : ∀ (ds : List Df) (hs : List (List Kd × Kd)) (c : Nat), (genDs tb ds hs c).1.length ≤ 6 * szP ds
  | [], _, c => by simp [genDs]
  | _ :: _, [], c => by simp [genDs]
  | d :: ds, h :: hs, c => by
    have h1 := gen_len tb 10 d.body (envOf d.params h.1) c
    have h2 := genDs_len tb ds hs (gen tb 10 d.body (envOf d.params h.1) c).2
    simp only [genDs, szP, List.map_cons, List.sum_cons, List.length_append, List.length_cons] at h2 ⊢
    omega
/-- the heads, the table, the rows, the count -/
def hdP (p : List Df) : List (List Kd × Kd) := (heads p 0).1
def tbP (p : List Df) : Tab' := tbOf p (hdP p)
def rsP (p : List Df) : List Row := (genDs (tbP p) p (hdP p) (heads p 0).2).1
def ctP (p : List Df) : Nat := (genDs (tbP p) p (hdP p) (heads p 0).2).2
end Tp
set_option Elab.async false
set_option linter.all false
set_option maxRecDepth 100000
set_option maxHeartbeats 4000000
namespace Tp
open PySem PySem.Spec PyProof.Rows L2

/-! ### methods -/
def CalM (P : Program) (w : World) (K : PySem.W.Frag) (mg : Str → Option Value) (base : Heap) (k : Nat) (C : Addr) (m : Str) (ps : List Str) (sp : Sp) : Prop :=
  ∃ (f : Addr) (fd : FuncData), Meth K C m f ∧ Binds K fd ps [] ∧ FnOk P w K mg base CX0 k f fd ps sp
theorem pe_calM {X : Cx} {j k : Nat} {C : Addr} {m : Str} {ps : List Str} {sp : Sp} {o e : Expr} {es : List Expr} {ta : TE} {t : TA} {apos pos : Pos} {pl : Sem Bool} (c : CalM X.prog X.w X.K X.mg X.base j C m ps sp) (hc : Cls X.K C) (he : PE X o ta) (hr : Room k X.A) (ha : PA X (e :: es) t) (hj : j ≤ k := by first | exact Nat.le_refl _ | decide | omega)
    (hst : starEach (e :: es) X.env = (false, eval e X.env) :: starEach es X.env := by rfl) (hpl : (backTo pos (starEach es X.env)).any (·.1) = false := by rfl)
    (ht : eval (.Call (.Attribute o m apos) (e :: es) [] pos) X.env = (do
      let ov ← eval o X.env
      standAt apos.atName
      let (f, first) ← holding [ov] (getMethod ov m pl)
      callWith pos f first (backTo pos (starEach (e :: es) X.env)) (backToKw pos (keywordEach [] X.env))) := by rfl) :
    PE X (.Call (.Attribute o m apos) (e :: es) [] pos) (tMeth C m sp [] E0 ta t) := by
  obtain ⟨f, fd, h1, h2, h3⟩ := c
  exact pe_meth he hc h1 h3 (hr.mono hj) h2 .nil pass0 ha hst hpl ht
theorem pe_calM0 {X : Cx} {j k : Nat} {C : Addr} {m : Str} {ps : List Str} {sp : Sp} {o : Expr} {ta : TE} {apos pos : Pos} {pl : Sem Bool} (c : CalM X.prog X.w X.K X.mg X.base j C m ps sp) (hc : Cls X.K C) (he : PE X o ta) (hr : Room k X.A) (hj : j ≤ k := by first | exact Nat.le_refl _ | decide | omega)
    (ht : eval (.Call (.Attribute o m apos) [] [] pos) X.env = (do
      let ov ← eval o X.env
      standAt apos.atName
      let (f, first) ← holding [ov] (getMethod ov m pl)
      callWith pos f first (backTo pos (starEach [] X.env)) (backToKw pos (keywordEach [] X.env))) := by rfl) :
    PE X (.Call (.Attribute o m apos) [] [] pos) (tMeth C m sp [] E0 ta tNil) := by
  obtain ⟨f, fd, h1, h2, h3⟩ := c
  exact pe_meth0 he hc h1 h3 (hr.mono hj) h2 .nil pass0 ht
theorem mk_calM {P : Program} {w : World} {K : PySem.W.Frag} {mg : Str → Option Value} {base : Heap} {x qual : Str} {st : Stmt} {C f : Addr} {fd : FuncData} {ps : List Str} {k : Nat} {sp : Sp} {m : Str}
    (F : FunD K x qual (defArgs st) (defBody st) (defScope st) [] [] f fd) (hm : Meth K C m f)
    (hb : ∀ (kV doc pm : Value) (an : Option Addr) (cdv ct : Value) (us : List Value), us.length = ps.length → bindArgs (PySem.W.fnOf x qual (defArgs st) (defBody st) (defScope st) .none kV doc pm an cdv ct) ⟨us, []⟩ = pure (ps.zip us))
    (h : FnOk P w K mg base CX0 k f fd ps sp) : CalM P w K mg base k C m ps sp := ⟨f, fd, hm, F.bindsN hb, h⟩

/-! ### the state of a Demands -/
abbrev dmC (K : PySem.W.Frag) : Addr := He.ga K "Demands"
def dmF (c : Int) (l d : Addr) : List (Str × V) := [("count", .int c), ("rows", .ref l), ("table", .ref d)]
def TbAt (H : Hp) (l d : Addr) (tb : Tab') : Prop := ∃ kvs : List (Key × V), H d = some (.dK kvs) ∧ ∀ x, match tb x with
  | none => valV kvs (.inr x) = none
  | some (ks, k) => ∃ p q vs v, valV kvs (.inr x) = some (.ref p) ∧ H p = some (.tup [.ref q, v]) ∧ H q = some (.lst vs) ∧ q ≠ l ∧ TDs H vs (ks.map kd) ∧ TD H v (kd k)
structure DmAt (K : PySem.W.Frag) (H : Hp) (s l d : Addr) (c : Nat) (rs : List Row) (tb : Tab') : Prop where
  ins : ∃ dx, H s = some (.ins (dmC K) dx (dmF c l d))
  rows : ∃ vs, H l = some (.lst vs) ∧ TDs H vs (rs.map rowD)
  tab : TbAt H l d tb
def NrAt (H : Hp) (nd : Addr) (near : Env') (n : Nat) : Prop := ∃ kvs : List (Key × V), H nd = some (.dK kvs) ∧ kvs.length ≤ n ∧ ∀ x, match near x with
  | none => valV kvs (.inr x) = none
  | some k => ∃ v, valV kvs (.inr x) = some v ∧ TD H v (kd k)
section
variable {K : PySem.W.Frag} {H H' : Hp} {s l d nd a : Addr} {c n : Nat} {rs : List Row} {tb : Tab'} {near : Env'} {M : List Addr}
theorem ne_kind {o u : HO} (h1 : H s = some o) (h2 : H a = some u) (h : o ≠ u) : s ≠ a := fun e => by
  rw [e, h2] at h1
  exact h (Option.some.inj h1).symm
theorem TbAt.mono (k : Kp M H H') (hM : ∀ b ∈ M, ∀ o, H b = some o → (∃ C dx fs, o = .ins C dx fs) ∨ b = l) (h : TbAt H l d tb) (hd : d ≠ l) : TbAt H' l d tb := by
  obtain ⟨kvs, h1, h2⟩ := h
  have nm : ∀ b o, H b = some o → (∀ C dx fs, o ≠ .ins C dx fs) → b ≠ l → b ∉ M := fun b o hb ho hl hm => by
    rcases hM b hm o hb with ⟨C, dx, fs, e⟩ | e
    · exact ho C dx fs e
    · exact hl e
  refine ⟨kvs, k.at h1 (nm d _ h1 (by simp) hd), fun x => ?_⟩
  have h2 := h2 x
  split
  · rename_i e
    rw [e] at h2
    exact h2
  · rename_i ks kk e
    rw [e] at h2
    obtain ⟨p, q, vs, v, g1, g2, g3, g4, g5, g6⟩ := h2
    exact ⟨p, q, vs, v, g1, k.atT g2, k.at g3 (nm q _ g3 (by simp) g4), g4, g5.mono k, g6.mono k⟩
theorem NrAt.mono (k : Kp M H H') (hM : ∀ b ∈ M, ∀ o, H b = some o → ∀ kvs, o ≠ .dK kvs) (h : NrAt H nd near n) : NrAt H' nd near n := by
  obtain ⟨kvs, h1, h0, h2⟩ := h
  refine ⟨kvs, k.at h1 (fun hm => hM nd hm _ h1 kvs rfl), h0, fun x => ?_⟩
  have h2 := h2 x
  split
  · rename_i e
    rw [e] at h2
    exact h2
  · rename_i kk e
    rw [e] at h2
    obtain ⟨v, g1, g2⟩ := h2
    exact ⟨v, g1, g2.mono k⟩
theorem NrAt.mono0 (k : Kp [] H H') (h : NrAt H nd near n) : NrAt H' nd near n := h.mono k (by simp)
theorem DmAt.dl (D : DmAt K H s l d c rs tb) : d ≠ l := by
  obtain ⟨kvs, h1, _⟩ := D.tab
  obtain ⟨vs, h2, _⟩ := D.rows
  exact ne_kind h1 h2 (by simp)
theorem DmAt.sl (D : DmAt K H s l d c rs tb) : s ≠ l := by
  obtain ⟨dx, h1⟩ := D.ins
  obtain ⟨vs, h2, _⟩ := D.rows
  exact ne_kind h1 h2 (by simp)
theorem DmAt.mono0 (k : Kp [] H H') (D : DmAt K H s l d c rs tb) : DmAt K H' s l d c rs tb := by
  obtain ⟨dx, h1⟩ := D.ins
  obtain ⟨vs, h2, h3⟩ := D.rows
  exact ⟨⟨dx, k.at h1 ni0⟩, ⟨vs, k.at h2 ni0, h3.mono k⟩, D.tab.mono k (by simp) D.dl⟩
/-- what is no list and no instance is kept -/
theorem DmAt.nr (D : DmAt K H s l d c rs tb) (k : Kp [s, l] H H') (h : NrAt H nd near n) : NrAt H' nd near n := by
  obtain ⟨dx, h1⟩ := D.ins
  obtain ⟨vs, h2, h3⟩ := D.rows
  refine h.mono k fun b hb o ho kvs => ?_
  simp at hb
  rcases hb with e | e
  · rw [e, h1] at ho
    cases ho
    simp
  · rw [e, h2] at ho
    cases ho
    simp
/-- what of it is written -/
structure DmR (K : PySem.W.Frag) (H : Hp) (s l d : Addr) (c : Nat) (rs : List Row) : Prop where
  ins : ∃ dx, H s = some (.ins (dmC K) dx (dmF c l d))
  rows : ∃ vs, H l = some (.lst vs) ∧ TDs H vs (rs.map rowD)
theorem DmAt.r (D : DmAt K H s l d c rs tb) : DmR K H s l d c rs := ⟨D.ins, D.rows⟩
theorem DmR.mono {a : Addr} (k : Kp [a] H H') (h1 : s ≠ a) (h2 : l ≠ a) (D : DmR K H s l d c rs) : DmR K H' s l d c rs := by
  obtain ⟨dx, g1⟩ := D.ins
  obtain ⟨vs, g2, g3⟩ := D.rows
  exact ⟨⟨dx, k.at g1 (ni1 h1)⟩, ⟨vs, k.at g2 (ni1 h2), g3.mono k⟩⟩
theorem DmAt.tb' (D : DmAt K H s l d c rs tb) (k : Kp [s, l] H H') : TbAt H' l d tb := by
  obtain ⟨dx, g1⟩ := D.ins
  refine D.tab.mono k (fun b hb o ho => ?_) D.dl
  simp at hb
  rcases hb with e | e
  · rw [e, g1] at ho
    cases ho
    exact .inl ⟨_, _, _, rfl⟩
  · exact .inr e
/-- the state as it is now, the table as it was -/
theorem DmAt.re {c' : Nat} {rs' : List Row} (D : DmAt K H s l d c rs tb) (k : Kp [s, l] H H') (r : DmR K H' s l d c' rs') : DmAt K H' s l d c' rs' tb := ⟨r.ins, r.rows, D.tb' k⟩
theorem DmAt.new_ne (D : DmAt K H s l d c rs tb) {p : Addr} (h : H p = none) : s ≠ p ∧ l ≠ p ∧ p ∉ [s, l] := by
  obtain ⟨dx, g1⟩ := D.ins
  obtain ⟨vs, g2, g3⟩ := D.rows
  have a := ne_of_none g1 h
  have b := ne_of_none g2 h
  exact ⟨a, b, by simp [Ne.symm a, Ne.symm b]⟩
/-- the count written -/
theorem DmAt.count (D : DmAt K H s l d c rs tb) {dx : Addr} {n : Nat} (h : H s = some (.ins (dmC K) dx (dmF c l d))) : DmAt K (upd H s (.ins (dmC K) dx (dmF n l d))) s l d n rs tb ∧ Kp [s, l] H (upd H s (.ins (dmC K) dx (dmF n l d))) := by
  have kw : Kp [s] H (upd H s (.ins (dmC K) dx (dmF n l d))) := Kp.wr (by simp) h rfl
  obtain ⟨vs, h2, h3⟩ := D.rows
  refine ⟨⟨⟨dx, upd_same⟩, ⟨vs, by rw [upd_ne D.sl.symm]; exact h2, h3.mono kw⟩, D.tab.mono kw (fun b hb o ho => ?_) D.dl⟩, kw.mono (by simp)⟩
  rw [List.mem_singleton.mp hb, h] at ho
  cases ho
  exact .inl ⟨_, _, _, rfl⟩
/-- a row added -/
theorem DmAt.row (D : DmAt K H s l d c rs tb) {vs : List V} {v : V} {r : Row} (h : H l = some (.lst vs)) (ts : TDs H vs (rs.map rowD)) (hv : TD H v (rowD r)) : DmAt K (upd H l (.lst (vs ++ [v]))) s l d c (rs ++ [r]) tb ∧ Kp [s, l] H (upd H l (.lst (vs ++ [v]))) := by
  have kw : Kp [l] H (upd H l (.lst (vs ++ [v]))) := Kp.wr (by simp) h rfl
  obtain ⟨dx, h1⟩ := D.ins
  refine ⟨⟨⟨dx, by rw [upd_ne D.sl]; exact h1⟩, ⟨_, upd_same, ?_⟩, D.tab.mono kw (fun b hb o ho => .inr (List.mem_singleton.mp hb)) D.dl⟩, kw.mono (by simp)⟩
  rw [List.map_append]
  exact (ts.snoc hv).mono kw
end
section
variable {K : PySem.W.Frag} {mg : Str → Option Value} {σ : L2.St} {H : Hp} {Q : VK} {s l d : Addr} {c : Nat} {rs : List Row} {tb : Tab'} {sp : Sp} {t : TA} {te : TE} {ta : TA}
theorem dm_no {c : Int} {m : Str} (hm : m ∈ (["new", "demand", "kind_of", "of_use", "of_op", "of_case"] : List Str)) : (dmF c l d).lookup m = none := by
  simp only [List.mem_cons, List.not_mem_nil, or_false] at hm
  rcases hm with e | e | e | e | e | e <;> subst e <;> rfl
/-- self.m(..) -/
theorem r_self {m : Str} (hσ : σ[0]? = some (some (.ref s))) (D : DmAt K H s l d c rs tb) (hm : m ∈ (["new", "demand", "kind_of", "of_use", "of_op", "of_case"] : List Str)) (h : t σ H fun vs H1 => sp (.ref s :: vs) H1 Q E0) : tMeth (dmC K) m sp [] E0 (tVar 0) t σ H Q := by
  obtain ⟨dx, h1⟩ := D.ins
  refine ⟨_, hσ, s, dx, _, rfl, h1, dm_no hm, ?_⟩
  have e : (fun (vs : List V) (H2 : Hp) => sp (V.ref s :: (vs ++ [])) H2 Q E0) = fun vs H2 => sp (V.ref s :: vs) H2 Q E0 := by
    funext vs H2
    rw [List.append_nil]
  rw [e]
  exact h
theorem r_fld {a : Addr} {f : Str} {v : V} {C dx : Addr} {fs : List (Str × V)} (h : H a = some (.ins C dx fs)) (hc : Cls K C) (hn : NoAttr K C f) (hl : fs.lookup f = some v) (q : Q v H) (hσ : te σ H fun x H1 => x = .ref a ∧ H1 = H) : True := trivial
theorem r_selfF {i : Nat} {f : Str} {v : V} {C dx : Addr} {fs : List (Str × V)} (hσ : σ[i]? = some (some (.ref s))) (h : H s = some (.ins C dx fs)) (hc : Cls K C) (hn : NoAttr K C f) (hl : fs.lookup f = some v) (q : Q v H) : tFld K (tVar i) f σ H Q :=
  ⟨_, hσ, s, C, dx, fs, v, rfl, h, hc, hn, hl, q⟩
theorem r_bm {ty : String} {r : V → List V → Hp → VK → Prop} (h : te σ H fun x H1 => tyV K ty x H1 ∧ ta σ H1 fun xs H2 => r x xs H2 Q) : tBM K ty r te ta σ H Q := h
theorem tyV_l {xs : List V} (h : H l = some (.lst xs)) : tyV K "list" (.ref l) H := .inl ⟨rfl, xs, SqL.of h⟩
theorem r_append {xs : List V} {y : V} (h : H l = some (.lst xs)) (hs : xs.length ≤ 1000) (q : Q .non (upd H l (.lst (xs ++ [y])))) : rAppend (.ref l) [y] H Q := ⟨l, xs, y, rfl, rfl, h, small1000 hs, q⟩
theorem r_fldaug {tv : TE} {rd : V → V → Hp → VK → Prop} {f : Str} {D : Ends} (h : te σ H fun x H1 => ∃ a C dx fs v, x = .ref a ∧ H1 a = some (.ins C dx fs) ∧ Cls K C ∧ NoAttr K C f ∧ fs.lookup f = some v ∧
  tv σ H1 fun y H2 => rd v y H2 fun z H3 => ∃ dx' fs', H3 a = some (.ins C dx' fs') ∧ fs'.length < 1000 ∧ D.nx σ (upd H3 a (.ins C dx' (putF f z fs')))) : sFldAug K te tv rd f D σ H := h
theorem r_fldset {tv : TE} {f : Str} {D : Ends} (h : tv σ H fun y H1 => te σ H1 fun x H2 => ∃ a C dx fs, x = .ref a ∧ H2 a = some (.ins C dx fs) ∧ Cls K C ∧ NoAttr K C f ∧ fs.length < 1000 ∧
  D.nx σ (upd H2 a (.ins C dx (putF f y fs)))) : sFld K te tv f D σ H := h
theorem r_dz {b c : Bool} (h : ta σ H fun vs H1 => ∃ (l m : Addr) (ks : List Key) (ys : List V), vs = [.ref l, .ref m] ∧ SqB K b H1 l (ks.map kV) ∧ SqB K c H1 m ys ∧ ys.length = ks.length ∧
  ∀ d H2, Kp [] H1 H2 → H1 d = none → H2 d = some (.dK (mergeK [] (ks.zip ys))) → Q (.ref d) H2) : tDictZip K b c ta σ H Q := h
theorem r_lz {b c : Bool} (h : ta σ H fun vs H1 => ∃ (l m : Addr) (xs ys : List V), vs = [.ref l, .ref m] ∧ SqB K b H1 l xs ∧ SqB K c H1 m ys ∧ ys.length = xs.length ∧
  ∀ p (ts : List Addr) H2, Kp [] H1 H2 → H1 p = none → H2 p = some (.lst (ts.map V.ref)) → Paired (fun (t : Addr) (q : V × V) => H2 t = some (.tup [q.1, q.2])) ts (xs.zip ys) → Q (.ref p) H2) : tListZip K b c ta σ H Q := h
theorem r_gSub {to ti : TE} {t : TSet} {v : V} {Q : L2.St → Hp → Prop} (h : to σ H fun o H1 => ti σ H1 fun i H2 => t o i v H2 fun H3 => Q σ H3) : gSub to ti t v σ H Q := h
theorem r_setD_s {x : Str} {v : V} {kvs : List (Key × V)} {Q : Hp → Prop} (h : H d = some (.dK kvs)) (hl : kvs.length ≤ 1000) (q : ∀ H2, Kp [d] H H2 → H2 d = some (.dK (putK kvs (.inr x) v)) → Q H2) : rSetD (.ref d) (.str x) v H Q :=
  ⟨d, _, rfl, DPut.k (k := Sum.inr x) h (small1000 hl), q _ (Kp.wr (by simp) h rfl) upd_same⟩
theorem r_gUnl {v : V} {n : Nat} {t : TGs} {Q : L2.St → Hp → Prop} {a : Addr} {xs : List V} (e : v = .ref a) (h : H a = some (.lst xs)) (hl : xs.length = n) (q : t xs σ H Q) : gUnl K n t v σ H Q := ⟨a, xs, e, SqL.of h, hl, q⟩
end
section
variable {K : PySem.W.Frag} {H H1 H2 : Hp} {d a p : Addr} {M : List Addr} {near : Env'} {n : Nat}
/-- what was not there may be written -/
theorem Kp.fresh (q : Kp M H H1) (h : H p = none) (k : Kp [p] H1 H2) : Kp M H H2 := by
  refine ⟨fun b o e n => k.keep b o (q.keep b o e n) (by simp [ne_of_none e h]), fun b xs e => k.tups b xs (q.tups b xs e), fun b o e => ?_⟩
  obtain ⟨o1, e1⟩ := q.there b o e
  exact k.there b o1 e1
theorem NrAt.put {kvs : List (Key × V)} {x : Str} {v : V} {k : Kd} (h : H d = some (.dK kvs)) (N : NrAt H d near n) (tv : TD H v (kd k)) (kp : Kp [d] H H2) (h2 : H2 d = some (.dK (putK kvs (.inr x) v))) : NrAt H2 d (near.put x k) (n + 1) := by
  obtain ⟨kvs', h1, h3, h4⟩ := N
  rw [h] at h1
  cases h1
  refine ⟨_, h2, Nat.le_trans (length_putK _ _ _) (by omega), fun y => ?_⟩
  have h4 := h4 y
  rw [valV_put]
  unfold Env'.put
  by_cases hy : y = x
  · rw [if_pos hy, if_pos (by rw [hy])]
    exact ⟨v, rfl, tv.mono kp⟩
  · rw [if_neg hy, if_neg (fun e => hy (Sum.inr.inj e))]
    split
    · rename_i e
      rw [e] at h4
      exact h4
    · rename_i kk e
      rw [e] at h4
      obtain ⟨v', g1, g2⟩ := h4
      exact ⟨v', g1, g2.mono kp⟩
theorem NrAt.at (N : NrAt H d near n) : ∃ kvs, H d = some (.dK kvs) ∧ kvs.length ≤ n := by
  obtain ⟨kvs, h1, h2, _⟩ := N
  exact ⟨kvs, h1, h2⟩
theorem r_nr_get {x : Str} {k : Kd} {P : Addr → V → Prop} (N : NrAt H d near n) (hx : near x = some k) (q : ∀ v, TD H v (kd k) → P d v) : ∃ a v, V.ref d = .ref a ∧ DGet H a (.str x) (some v) ∧ P a v := by
  obtain ⟨kvs, h1, h2, h3⟩ := N
  have h3 := h3 x
  rw [hx] at h3
  obtain ⟨v, g1, g2⟩ := h3
  exact r_dget_s h1 g1 (q v g2)
/-- a copy -/
theorem NrAt.copy {d2 : Addr} {kvs : List (Key × V)} (N : NrAt H d near n) (h : H d = some (.dK kvs)) (k : Kp [] H H2) (h2 : H2 d2 = some (.dK kvs)) : NrAt H2 d2 near n := by
  obtain ⟨kvs', h1, h3, h4⟩ := N
  rw [h] at h1
  cases h1
  refine ⟨_, h2, h3, fun y => ?_⟩
  have h4 := h4 y
  split
  · rename_i e
    rw [e] at h4
    exact h4
  · rename_i kk e
    rw [e] at h4
    obtain ⟨v', g1, g2⟩ := h4
    exact ⟨v', g1, g2.mono k⟩
theorem NrAt.monoD (N : NrAt H a near n) (k : Kp [p] H H2) (h : a ≠ p) : NrAt H2 a near n := by
  obtain ⟨kvs, h1, h3, h4⟩ := N
  refine ⟨kvs, k.at h1 (ni1 h), h3, fun y => ?_⟩
  have h4 := h4 y
  split
  · rename_i e
    rw [e] at h4
    exact h4
  · rename_i kk e
    rw [e] at h4
    obtain ⟨v', g1, g2⟩ := h4
    exact ⟨v', g1, g2.mono k⟩
end
theorem r_dnew {σ : L2.St} {H : Hp} {Q : VK} (q : ∀ p H2, Kp [] H H2 → H p = none → H2 p = some (.dK []) → Q (.ref p) H2) : tDNewK σ H Q := fun p hp => q p _ (Kp.new hp) hp upd_same
end Tp
set_option Elab.async false
set_option linter.all false
set_option maxRecDepth 100000
set_option maxHeartbeats 4000000
set_option pp.maxSteps 500
set_option pp.deepTerms false
namespace Tp
open PySem PySem.Spec PyProof.Rows L2
local macro_rules | `(tactic| walk_at "r") => `(tactic| with_reducible first
  | refine r_seq ?_ | refine r_set ?_ | refine r_ret ?_ | refine r_ifS ?_ | refine r_drop ?_ | refine r_next ?_ | refine r_nx ?_ | refine r_rt ?_
  | refine r_var rfl ?_ | refine r_c ?_ | refine r_op ?_ | refine r_test ?_ | refine r_B ?_ | refine r_exbl ?_ | refine r_exstr ?_ | refine r_exref ?_ | refine r_exint ?_ | refine r_ex2 ?_ | refine r_not ?_ | refine r_and ?_ | refine r_or ?_
  | refine r_andV ?_ | refine r_orV ?_ | refine r_notV ?_ | refine r_ifE ?_ | refine r_chain ?_ | refine r_asg ?_
  | refine r_cb ?_ | refine r_cons ?_ | refine r_nil ?_ | refine r_call ?_ | refine r_par ?_ | refine r_tup ?_ | refine r_lst ?_
  | refine r_lc ?_ | refine r_dget ?_ | refine r_din ?_ | refine r_dnotin ?_ | refine r_dput ?_ | refine r_sl ?_ | refine r_part ?_ | refine r_nopart ?_ | refine r_for ?_ | refine r_iList ?_ | refine r_iTup ?_ | refine r_iStr ?_ | refine r_iKeys ?_ | refine r_rng1 ?_ | refine r_dsetd ?_ | refine r_dnew ?_ | refine r_bm ?_ | refine r_fldaug ?_ | refine r_fldset ?_ | refine r_dz ?_ | refine r_lz ?_ | refine r_gSub ?_ | refine r_dc ?_ | refine r_sc ?_ | refine r_iEnumB ?_ | refine r_iZipB ?_ | refine r_iRevA ?_ | refine r_yes1 ?_ | refine r_gName ?_ | refine r_gCons ?_ | refine r_gNil ?_
  | refine r_I0 ?_ | refine r_eq_str ?_ | refine r_eq_int ?_ | refine r_ne_str ?_ | refine r_ne_int ?_
  | refine r_isi_int_int ?_ | refine r_isi_int_bool ?_ | refine r_isi_str_str ?_ | refine r_isi_int_tup ?_ | refine r_isi_str_tup ?_)
local macro_rules | `(tactic| walk_at "rr") => `(tactic| repeat walk_at "r")
local macro_rules | `(tactic| walk_at "len") => `(tactic| (intro vs H Q E h; repeat (first | (obtain ⟨e, _⟩ := h; rw [e]; rfl) | (obtain ⟨_, h⟩ := h))))
local macro_rules | `(tactic| walk_at "ni") => `(tactic| first | exact ni0 | exact ni1 (by assumption) | exact ni2 (by assumption) (by assumption) | exact ni3 (by assumption) (by assumption) (by assumption))
local macro_rules | `(tactic| walk_at "sub") => `(tactic| first | (intro b hb; cases hb; done) | (intro b hb; exact hb) | (intro b hb; simp at hb ⊢; simp [hb]; done) | (intro b hb; simp at hb ⊢; omega))
local macro_rules | `(tactic| walk_at "kp") => `(tactic| first | assumption | exact Kp.refl _ _ | (refine Kp.step (by assumption) (by walk_at "sub") ?_; walk_at "kp"))
local macro_rules | `(tactic| walk_at "at") => `(tactic| first | assumption | (refine Kp.atT (by assumption) ?_; walk_at "at") | (refine Kp.at (by assumption) ?_ (by walk_at "ni"); walk_at "at"))
local macro_rules | `(tactic| walk_at "td") => `(tactic| first | assumption | exact TD.int _ | exact TD.str _ | exact TDs.nil | (refine TDs.cons ?_ ?_ <;> walk_at "td") | (refine TD.mk (by assumption) ?_; walk_at "td") | (refine TD.mono (by assumption) ?_; walk_at "td") | (refine TDs.mono (by assumption) ?_; walk_at "td"))
local macro_rules | `(tactic| walk_at "b") => `(tactic| first | rfl | decide +kernel | (simp <;> omega) | (simp [*] <;> omega))
local macro_rules | `(tactic| walk_at "if") => `(tactic| first | refine r_yes (by walk_at "b") ?_ | refine r_no (by walk_at "b") ?_)
local macro_rules | `(tactic| walk_at "go") => `(tactic| repeat (first | walk_at "r" | walk_at "if"))
local macro_rules | `(tactic| walk_at "pf") => `(tactic| repeat (fail_if_success (with_reducible refine r_for ?_); walk_at "r"))
local macro_rules | `(tactic| walk_at "pt") => `(tactic| repeat (fail_if_success (with_reducible refine r_ifS ?_); walk_at "r"))
local macro_rules | `(tactic| walk_at "wn") => `(tactic| refine r_no (decide_eq_false (by simp only [Tree.word]; decide +kernel)) ?_)
local macro_rules | `(tactic| walk_at "nx") => `(tactic| (walk_at "wn"; walk_at "rr"))
section
variable {P : Program} {w : World} {K : PySem.W.Frag} {mg : Str → Option Value} {base : Heap}
def sp_new (K : PySem.W.Frag) : Sp := fun vs H Q _ => ∃ (s l d : Addr) (c : Nat) (rs : List Row) (tb : Tab'), vs = [.ref s] ∧ DmAt K H s l d c rs tb ∧ ∀ v H', Kp [s, l] H H' → DmAt K H' s l d (c + 1) rs tb → TD H' v (kd (an c)) → Q v H'
theorem sc_Demands_new : FnScope ["self"] ["self"] (defScope s_Demands_new) := ⟨rfl, rfl, rfl, by decide +kernel, rfl, by decide +kernel, by decide +kernel⟩
theorem c_new (T : Txt K mg) : CalM P w K mg base 1 (dmC K) "new" ["self"] (sp_new K) := by
  obtain ⟨fd, F⟩ := T.F_Demands_new
  refine mk_calM F T.m_new (fun _ _ _ _ _ _ us hl => match us, hl with | [_], _ => rfl) (mk_ok F sc_Demands_new (by walk_at "len") fun cdv A outer s H vs Q E hr h => ?_)
  obtain ⟨s0, l, d, c, rs, tb, rfl, D, q⟩ := h
  refine ⟨_, (pss_cons (ps_fldaug (pv 0) pe_int in_add) (pss_one (ps_ret (pe_tupK (pa_cons pe_str (pa_cons (pe_op op_sub (pe_fld (pv 0) rfl) pe_int) pa_nil)))))), ?_⟩
  obtain ⟨dx, hi⟩ := D.ins
  have put : ∀ n : Int, putF "count" (.int n) (dmF c l d) = dmF n l d := fun n => rfl
  walk_at "rr"
  refine ⟨s0, _, dx, _, _, rfl, hi, T.cls, T.no_count, rfl, ?_⟩
  walk_at "rr"
  refine ⟨_, _, rfl, rfl, dx, _, hi, by simp [dmF], ?_⟩
  rw [put]
  obtain ⟨D1, k1⟩ := D.count (n := c + 1) hi
  obtain ⟨dx1, hi1⟩ := D1.ins
  walk_at "rr"
  refine r_selfF rfl hi1 T.cls T.no_count rfl ?_
  walk_at "rr"
  refine ⟨by simp, fun p H2 k2 n2 e2 => ?_⟩
  refine q _ H2 (k1.trans (k2.mono (by simp))) (D1.mono0 k2) (TD.mk e2 ?_)
  have e : (((c + 1 : Nat) : Int) - 1) = (c : Int) := by omega
  rw [e]
  walk_at "td"
def sp_demand (K : PySem.W.Frag) : Sp := fun vs H Q _ => ∃ (s l d : Addr) (c : Nat) (rs : List Row) (tb : Tab') (plv av bv : V) (r : Row), vs = [.ref s, plv, av, bv] ∧ DmAt K H s l d c rs tb ∧ rs.length ≤ 900 ∧ TD H plv (pl r.1) ∧ TD H av (kd r.2.1) ∧ TD H bv (kd r.2.2) ∧ ∀ H', Kp [s, l] H H' → DmAt K H' s l d c (rs ++ [r]) tb → Q .non H'
theorem sc_Demands_demand : FnScope ["self", "place", "one", "other"] ["self", "place", "one", "other"] (defScope s_Demands_demand) := ⟨rfl, rfl, rfl, by decide +kernel, rfl, by decide +kernel, by decide +kernel⟩
theorem c_demand (T : Txt K mg) : CalM P w K mg base 1 (dmC K) "demand" ["self", "place", "one", "other"] (sp_demand K) := by
  obtain ⟨fd, F⟩ := T.F_Demands_demand
  refine mk_calM F T.m_demand (fun _ _ _ _ _ _ us hl => match us, hl with | [_, _, _, _], _ => rfl) (mk_ok F sc_Demands_demand (by walk_at "len") fun cdv A outer s H vs Q E hr h => ?_)
  obtain ⟨s0, l, d, c, rs, tb, plv, av, bv, r, rfl, D, hrs, hp, ha, hb, q⟩ := h
  refine ⟨_, (pss_one (ps_expr (pe_bm PySem.F.plainAttrs_list PySem.F.slot_list_append PySem.F.type_list_append mt_append (pe_fld (pv 0) rfl) (pa_cons (pe_tupK (pa_cons (pv 1) (pa_cons (pv 2) (pa_cons (pv 3) pa_nil)))) pa_nil)))), ?_⟩
  obtain ⟨dx, hi⟩ := D.ins
  obtain ⟨vs, hl, ts⟩ := D.rows
  have hvl : vs.length = rs.length := by rw [ts.1, List.length_map]
  walk_at "rr"
  refine r_selfF rfl hi T.cls T.no_rows rfl ?_
  refine ⟨tyV_l hl, ?_⟩
  walk_at "rr"
  refine ⟨by simp, fun p H1 k1 n1 e1 => ?_⟩
  have hl1 := k1.at hl ni0
  refine r_append hl1 (by omega) ?_
  obtain ⟨D2, k2⟩ := (D.mono0 k1).row (r := r) (v := .ref p) hl1 (ts.mono k1) (TD.mk e1 (.cons (hp.mono k1) (.cons (ha.mono k1) (.cons (hb.mono k1) .nil))))
  walk_at "rr"
  exact q _ (Kp.trans (k1.mono (by simp)) k2) D2
end
section
variable {P : Program} {w : World} {K : PySem.W.Frag} {mg : Str → Option Value} {base : Heap}
/-- all that kind_of of t wants -/
structure Rdy (K : PySem.W.Frag) (H : Hp) (s l d : Addr) (c : Nat) (rs : List Row) (tb : Tab') (nd : Addr) (near : Env') (nl : Nat) (n : Nat) (ar : Str → Option Nat) (nls : List Str) : Prop where
  D : DmAt K H s l d c rs tb
  N : NrAt H nd near nl
  ar : ∀ x, ar x = (tb x).map fun p => p.1.length
  nls : ∀ x, x ∈ nls ↔ (near x).isSome = true
  room : nl + 2 * n ≤ 900
theorem Rdy.mono {H H' : Hp} {s l d : Addr} {c c' : Nat} {rs rs' : List Row} {tb : Tab'} {nd : Addr} {near : Env'} {nl : Nat} {n : Nat} {ar : Str → Option Nat} {nls : List Str} (R : Rdy K H s l d c rs tb nd near nl n ar nls) (k : Kp [s, l] H H') (r : DmR K H' s l d c' rs') : Rdy K H' s l d c' rs' tb nd near nl n ar nls :=
  ⟨R.D.re k r, R.D.nr k R.N, R.ar, R.nls, R.room⟩
def sp_kind (K : PySem.W.Frag) (n : Nat) : Sp := fun vs H Q _ => ∃ (s l d : Addr) (c : Nat) (rs : List Row) (tb : Tab') (v : V) (t : Tree) (nd : Addr) (near : Env') (nl : Nat) (ar : Str → Option Nat) (nls : List Str), vs = [.ref s, v, .ref nd] ∧ Rdy K H s l d c rs tb nd near nl n ar nls ∧ TD H v (tr t) ∧
  Dep n t ∧ AllT okN t ∧ Snd ar nls t ∧ rs.length + 6 * sz t ≤ 800 ∧ ∀ v' H', Kp [s, l] H H' → DmR K H' s l d (gen tb n t near c).2 (rs ++ (gen tb n t near c).1) → TD H' v' (kd (an c)) → Q v' H'
def sp_of_op (K : PySem.W.Frag) (n : Nat) : Sp := fun vs H Q _ => ∃ (s l d : Addr) (c : Nat) (rs : List Row) (tb : Tab') (v : V) (p : Pl) (sg : Str) (a b : Tree) (nd : Addr) (near : Env') (nl : Nat) (ar : Str → Option Nat) (nls : List Str) (ov : V) (o : Kd), vs = [.ref s, v, .ref nd, ov] ∧ Rdy K H s l d c rs tb nd near nl n ar nls ∧ TD H v (tr (.op p sg a b)) ∧
  Dep (n + 1) (.op p sg a b) ∧ AllT okN (.op p sg a b) ∧ Snd ar nls (.op p sg a b) ∧ rs.length + 6 * sz (.op p sg a b) ≤ 800 ∧ TD H ov (kd o) ∧
  ∀ H', Kp [s, l] H H' → DmR K H' s l d (gens tb n near [a, b] c).2.2 (rs ++ ((gens tb n near [a, b] c).1 ++ genOp p sg o (an c) (an (gen tb n a near c).2))) → Q .non H'
theorem kinds_lc {n i : Nat} {H1 : Hp} {l0 s0 l d nd : Addr} {c nl : Nat} {rs : List Row} {tb : Tab'} {near : Env'} {ar : Str → Option Nat} {nls : List Str} {ys : List V} {t : Tree} {σ : L2.St} {Q : VK} (e1 : H1 l0 = some (.lst ys)) (hl0 : l0 ≠ l) (t1 : TDs H1 ys (t.subs.map tr)) (R : Rdy K H1 s0 l d c rs tb nd near nl n ar nls) (hdp : Dep (n + 1) t) (ok : AllT okN t) (snd : ∀ u ∈ t.subs, Snd ar nls u) (hrs : rs.length + 6 * sz t ≤ 800) (few : t.subs.length ≤ 4)
    (h0 : ∀ y, ((wipe σ [i]).set i (some y))[0]? = some (some (.ref s0))) (h2 : ∀ y, ((wipe σ [i]).set i (some y))[2]? = some (some (.ref nd))) (hi : ∀ y, ((wipe σ [i]).set i (some y))[i]? = some (some y)) (hw : ∀ y, wipe ((wipe σ [i]).set i (some y)) [i] = wipe σ [i])
    (q : ∀ D0 acc H', Kp [s0, l] H1 H' → H1 D0 = none → H' D0 = some (.lst acc) → DmR K H' s0 l d (gens tb n near t.subs c).2.2 (rs ++ (gens tb n near t.subs c).1) → TDs H' acc ((gens tb n near t.subs c).2.1.map kd) → Q (.ref D0) H') :
    LcB (Itl K l0) (gName i) tYes (tMeth (dmC K) "kind_of" (sp_kind K n) [] E0 (tVar 0) (tCons (tVar i) (tCons (tVar 2) tNil))) [i] σ H1 Q := by
  have hlen : ys.length = t.subs.length := by rw [t1.1, List.length_map]
  have hl0s : l0 ∉ [s0, l] := by
    obtain ⟨dx, g1⟩ := R.D.ins
    have := ne_kind g1 e1 (by simp)
    simp [hl0, Ne.symm this]
  have hsz := szs_eq t
  refine lcW (walk_list (xs := ys)) (by omega) [s0, l] (fun i acc H' => DmR K H' s0 l d (gens tb n near (t.subs.take i) c).2.2 (rs ++ (gens tb n near (t.subs.take i) c).1) ∧ TDs H' acc ((gens tb n near (t.subs.take i) c).2.1.map kd)) (fun H2 k => SqL.of (k.at e1 hl0s)) (fun D0 H2 hD k => ?_) ?_ ?_
  · have := (R.D.mono0 k).r
    simp only [List.take_zero, gens, List.append_nil, List.map_nil]
    exact ⟨this, TDs.nil⟩
  · rintro j y D0 acc H2 H3 hj hD hl k hdd ⟨r, ta⟩ ⟨rfl, hy⟩
    obtain ⟨u, hu, hju, htu⟩ := t1.map_get hy
    have hst := szs_take hju
    have hgl := gens_len tb n near (t.subs.take j) c
    have Rn := R.mono k r
    refine r_gName ?_
    refine ⟨hw y, ?_⟩
    refine r_yes1 ?_
    refine r_yes rfl ?_
    refine r_self (h0 y) Rn.D (by simp) ?_
    refine r_cons (r_var (hi y) ?_)
    refine r_cons (r_var (h2 y) ?_)
    refine r_nil ?_
    refine ⟨s0, l, d, _, _, tb, y, u, nd, near, nl, ar, nls, rfl, Rn, htu.mono k, hdp.sub hu, ok.sub hu, snd u hu, by rw [List.length_append]; omega, fun v' H4 k4 r4 tv => ?_⟩
    obtain ⟨n1, n2, n3⟩ := R.D.new_ne hD
    refine lc_fin hD (by omega) hl (k.trans k4) (k4.at hdd n3) fun H5 k5 => ?_
    have et : t.subs.take (j + 1) = t.subs.take j ++ [u] := by
      rw [List.take_add_one, hju]
      rfl
    rw [et, gens_snoc]
    refine ⟨?_, ?_⟩
    · rw [← List.append_assoc]
      exact r4.mono k5 n1 n2
    · rw [List.map_append]
      exact ((ta.mono k4).snoc tv).mono k5
  · rintro D0 acc H2 hD hl k hdd ⟨r, ta⟩
    rw [hlen, List.take_length] at r ta
    exact q D0 acc H2 k hD hdd r ta
theorem sc_Demands_of_op : FnScope ["self", "tree", "near", "own", "left", "right", "one"] ["self", "tree", "near", "own"] (defScope s_Demands_of_op) := ⟨rfl, rfl, rfl, by decide +kernel, rfl, by decide +kernel, by decide +kernel⟩
theorem c_of_op {n : Nat} (T : Txt K mg) (C_Demands_demand : CalM P w K mg base 1 (dmC K) "demand" ["self", "place", "one", "other"] (sp_demand K)) (C_subtrees : Cal P w K mg base 1 "subtrees" ["tree"] sp_subtrees) (C_Demands_kind_of : CalM P w K mg base (2 * n + 2) (dmC K) "kind_of" ["self", "tree", "near"] (sp_kind K n)) : CalM P w K mg base (2 * n + 3) (dmC K) "of_op" ["self", "tree", "near", "own"] (sp_of_op K n) := by
  obtain ⟨fd, F⟩ := T.F_Demands_of_op
  refine mk_calM F T.m_of_op (fun _ _ _ _ _ _ us hl => match us, hl with | [_, _, _, _], _ => rfl) (mk_ok F sc_Demands_of_op (by walk_at "len") fun cdv A outer s H vs Q E hr h => ?_)
  obtain ⟨s0, l, d, c, rs, tb, v, p, sg, ta, tb2, nd, near, nl, ar, nls, ov, o, rfl, R, hv, hdp, ok, snd, hrs, ho, q⟩ := h
  refine ⟨_, (pss_cons (ps_asg (pe_lc (own := [("one", 6)]) (g := (gName 6)) (tt := tYes) rfl sc_Demands_of_op.nd (pi_list (pe_cal C_subtrees hr (pa_cons (pv 1) pa_nil))) (blkOk_by (own := [("one", 6)]) (N := ["self", "tree", "near", "own", "left", "right", "one"]) (sc := defScope s_Demands_of_op) (by decide +kernel)) (fun _ _ _ _ _ => (pg_name (i := 6) sc_Demands_of_op.nd rfl (by first | exact Or.inl rfl | exact Or.inr rfl))) (fun _ _ _ _ _ => pts_nil) (fun _ _ _ _ _ => (pe_calM C_Demands_kind_of T.cls (pv 0) hr (pa_cons (pv 6) (pa_cons (pv 2) pa_nil))))) (pg_unl rfl (pgs_cons (pg_name (i := 4) sc_Demands_of_op.nd rfl (by first | exact Or.inl rfl | exact Or.inr rfl)) (pgs_cons (pg_name (i := 5) sc_Demands_of_op.nd rfl (by first | exact Or.inl rfl | exact Or.inr rfl)) pgs_nil)))) (pss_one (ps_if (pt_cmpR (op_eqXK (K := K) hr rfl) (pe_ix (ix_seqK (K := K) rfl) (pv 1) pe_int (fun _ _ => rfl)) pe_str (nomark _)) (pss_cons (ps_expr (pe_calM C_Demands_demand T.cls (pv 0) hr (pa_cons (pe_ix (ix_seqK (K := K) rfl) (pv 1) pe_int (fun _ _ => rfl)) (pa_cons (pv 5) (pa_cons (pe_tupK (pa_cons pe_str (pa_cons (pv 4) pa_nil))) pa_nil))))) (pss_one (ps_expr (pe_calM C_Demands_demand T.cls (pv 0) hr (pa_cons (pe_ix (ix_seqK (K := K) rfl) (pv 1) pe_int (fun _ _ => rfl)) (pa_cons (pv 3) (pa_cons (pv 5) pa_nil))))))) (pss_cons (ps_expr (pe_calM C_Demands_demand T.cls (pv 0) hr (pa_cons (pe_ix (ix_seqK (K := K) rfl) (pv 1) pe_int (fun _ _ => rfl)) (pa_cons (pv 3) (pa_cons pe_str pa_nil))))) (pss_one (ps_if (pt_cmpR (op_neXK (K := K) hr rfl) (pe_ix (ix_seqK (K := K) rfl) (pv 1) pe_int (fun _ _ => rfl)) pe_str (nomark _)) (pss_cons (ps_expr (pe_calM C_Demands_demand T.cls (pv 0) hr (pa_cons (pe_ix (ix_seqK (K := K) rfl) (pv 1) pe_int (fun _ _ => rfl)) (pa_cons (pv 4) (pa_cons pe_str pa_nil))))) (pss_one (ps_expr (pe_calM C_Demands_demand T.cls (pv 0) hr (pa_cons (pe_ix (ix_seqK (K := K) rfl) (pv 1) pe_int (fun _ _ => rfl)) (pa_cons (pv 5) (pa_cons pe_str pa_nil))))))) pss_nil)))))), ?_⟩
  have hop : Tree.subs (.op p sg ta tb2) = [ta, tb2] := rfl
  walk_at "rr"
  refine ⟨v, _, rfl, hv, fun l0 ys H1 k1 n1 e1 t1 => ?_⟩
  walk_at "r"
  refine ⟨⟨_, SqL.of e1⟩, ?_⟩
  have k1' : Kp [s0, l] H H1 := k1.mono (by simp)
  have R1 := R.mono k1' (R.D.mono0 k1).r
  refine kinds_lc e1 (R.D.new_ne n1).2.1.symm t1 R1 hdp ok (fun u hu => snd.sub (q := (u, nls)) (by simpa [scop] using hu)) hrs (by simp [hop]) (fun _ => rfl) (fun _ => rfl) (fun _ => rfl) (fun _ => rfl) fun D0 acc H2 k2 n2 e2 r2 tacc => ?_
  obtain ⟨lv, ac2, rfl, tl, tacc⟩ := TDs.cons_inv (show TDs H2 acc [kd (an c), kd (an (gen tb n ta near c).2)] from tacc)
  obtain ⟨rv, ac3, rfl, trr, tacc⟩ := tacc.cons_inv
  cases tacc.nil_inv
  have hgl := gens_len tb n near (Tree.subs (.op p sg ta tb2)) c
  have hsz := szs_eq (.op p sg ta tb2)
  have k2' := k1'.trans k2
  have D2 := R1.D.re k2 r2
  have hv2 := hv.mono k2'
  rw [tr_op] at hv2
  have hlr : (rs ++ (gens tb n near (Tree.subs (.op p sg ta tb2)) c).1).length ≤ 800 := by rw [List.length_append]; omega
  refine r_gUnl rfl e2 rfl ?_
  walk_at "rr"
  refine r_ix_str hv2 2 rfl ?_
  walk_at "rr"
  by_cases hsg : sg = ":"
  · refine r_yes (decide_eq_true hsg) ?_
    walk_at "rr"
    refine r_self rfl D2 (by simp) ?_
    walk_at "rr"
    refine r_ix hv2 1 rfl fun plv hp => ?_
    walk_at "rr"
    refine ⟨by simp, fun p3 H3 k3 n3 e3 => ?_⟩
    refine ⟨s0, l, d, _, _, tb, plv, rv, _, (p, an (gen tb n ta near c).2, .lst (an c)), rfl, D2.mono0 k3, by omega, hp.mono k3, trr.mono k3, TD.mk e3 (.cons (.str _) (.cons (tl.mono k3) .nil)), fun H4 k4 D4 => ?_⟩
    have k4' := k2'.trans ((k3.mono (by simp)).trans k4)
    have k34 : Kp [s0, l] H2 H4 := (k3.mono (by simp)).trans k4
    walk_at "rr"
    refine r_self rfl D4 (by simp) ?_
    walk_at "rr"
    refine r_ix (hv2.mono k34) 1 rfl fun plv2 hp2 => ?_
    walk_at "rr"
    refine ⟨s0, l, d, _, _, tb, plv2, ov, rv, (p, o, an (gen tb n ta near c).2), rfl, D4, by rw [List.length_append]; simp; omega, hp2, ho.mono k4', trr.mono k34, fun H5 k5 D5 => ?_⟩
    walk_at "rr"
    refine q H5 (k4'.trans k5) ?_
    have e : genOp p sg o (an c) (an (gen tb n ta near c).2) = [(p, an (gen tb n ta near c).2, .lst (an c)), (p, o, an (gen tb n ta near c).2)] := by
      unfold genOp
      rw [if_pos hsg]
    rw [e]
    have D5 := D5.r
    simp only [List.append_assoc, List.cons_append, List.nil_append] at D5 ⊢
    exact D5
  · refine r_no (decide_eq_false hsg) ?_
    walk_at "rr"
    refine r_self rfl D2 (by simp) ?_
    walk_at "rr"
    refine r_ix hv2 1 rfl fun plv hp => ?_
    walk_at "rr"
    refine ⟨s0, l, d, _, _, tb, plv, ov, _, (p, o, .num), rfl, D2, by omega, hp, ho.mono k2', .str _, fun H4 k4 D4 => ?_⟩
    have k4' := k2'.trans k4
    walk_at "rr"
    refine r_ix_str (hv2.mono k4) 2 rfl ?_
    walk_at "rr"
    by_cases hse : sg = "=="
    · refine r_no (by simp [hse]) ?_
      walk_at "rr"
      refine q H4 k4' ?_
      have e : genOp p sg o (an c) (an (gen tb n ta near c).2) = [(p, o, .num)] := by
        unfold genOp
        rw [if_neg hsg, if_pos hse]
      rw [e]
      have D4 := D4.r
      simp only [List.append_assoc, List.cons_append, List.nil_append] at D4 ⊢
      exact D4
    · refine r_yes (by simp [hse]) ?_
      walk_at "rr"
      refine r_self rfl D4 (by simp) ?_
      walk_at "rr"
      refine r_ix (hv2.mono k4) 1 rfl fun plv2 hp2 => ?_
      walk_at "rr"
      refine ⟨s0, l, d, _, _, tb, plv2, lv, _, (p, an c, .num), rfl, D4, by rw [List.length_append]; simp; omega, hp2, tl.mono k4, .str _, fun H5 k5 D5 => ?_⟩
      have k5' := k4'.trans k5
      walk_at "rr"
      refine r_self rfl D5 (by simp) ?_
      walk_at "rr"
      refine r_ix ((hv2.mono k4).mono k5) 1 rfl fun plv3 hp3 => ?_
      walk_at "rr"
      refine ⟨s0, l, d, _, _, tb, plv3, rv, _, (p, an (gen tb n ta near c).2, .num), rfl, D5, by simp only [List.length_append, List.length_cons, List.length_nil] at hlr ⊢; omega, hp3, (trr.mono k4).mono k5, .str _, fun H6 k6 D6 => ?_⟩
      walk_at "rr"
      refine q H6 (k5'.trans k6) ?_
      have e : genOp p sg o (an c) (an (gen tb n ta near c).2) = [(p, o, .num), (p, an c, .num), (p, an (gen tb n ta near c).2, .num)] := by
        unfold genOp
        rw [if_neg hsg, if_neg hse]
      rw [e]
      have D6 := D6.r
      simp only [List.append_assoc, List.cons_append, List.nil_append] at D6 ⊢
      exact D6
end
section
variable {P : Program} {w : World} {K : PySem.W.Frag} {mg : Str → Option Value} {base : Heap}
def genUse (tb : Tab') (n : Nat) (p : Pl) (x : Str) (as : List Tree) (near : Env') (o : Kd) (c : Nat) : List Row × Nat :=
  match near x with
  | some k => ([(p, o, k)], c)
  | none =>
    match tb x with
    | some (ks, k) => ((genArgs (fun t c => gen tb n t near c) p ks as c).1 ++ [(p, o, k)], (genArgs (fun t c => gen tb n t near c) p ks as c).2)
    | none => ([], c)
theorem genArgs_snoc (f : Tree → Nat → List Row × Nat) (p : Pl) (k : Kd) (t : Tree) : ∀ (ks : List Kd) (ts : List Tree) (c : Nat), ks.length = ts.length → genArgs f p (ks ++ [k]) (ts ++ [t]) c =
    ((genArgs f p ks ts c).1 ++ ((f t (genArgs f p ks ts c).2).1 ++ [(p, k, an (genArgs f p ks ts c).2)]), (f t (genArgs f p ks ts c).2).2)
  | [], [], c, _ => by simp [genArgs]
  | [], _ :: _, _, h => by simp at h
  | _ :: _, [], _, h => by simp at h
  | a :: ks, u :: ts, c, h => by
    have := genArgs_snoc f p k t ks ts (f u c).2 (by simpa using h)
    simp only [List.cons_append, genArgs, this]
    simp
theorem take_snoc {α : Type} {l : List α} {i : Nat} {x : α} (h : l[i]? = some x) : l.take (i + 1) = l.take i ++ [x] := by
  rw [List.take_add_one, h]
  rfl
def sp_of_use (K : PySem.W.Frag) (n : Nat) : Sp := fun vs H Q _ => ∃ (s l d : Addr) (c : Nat) (rs : List Row) (tb : Tab') (v : V) (p : Pl) (x : Str) (as : List Tree) (nd : Addr) (near : Env') (nl : Nat) (ar : Str → Option Nat) (nls : List Str) (ov : V) (o : Kd), vs = [.ref s, v, .ref nd, ov] ∧ Rdy K H s l d c rs tb nd near nl n ar nls ∧ TD H v (tr (.use p x as)) ∧
  Dep (n + 1) (.use p x as) ∧ AllT okN (.use p x as) ∧ Snd ar nls (.use p x as) ∧ rs.length + 6 * sz (.use p x as) ≤ 800 ∧ TD H ov (kd o) ∧
  ∀ H', Kp [s, l] H H' → DmR K H' s l d (genUse tb n p x as near o c).2 (rs ++ (genUse tb n p x as near o c).1) → Q .non H'
theorem sc_Demands_of_use : FnScope ["self", "tree", "near", "own", "params", "kind", "param", "arg"] ["self", "tree", "near", "own"] (defScope s_Demands_of_use) := ⟨rfl, rfl, rfl, by decide +kernel, rfl, by decide +kernel, by decide +kernel⟩
theorem c_of_use {n : Nat} (T : Txt K mg) (C_Demands_demand : CalM P w K mg base 1 (dmC K) "demand" ["self", "place", "one", "other"] (sp_demand K)) (C_Demands_kind_of : CalM P w K mg base (2 * n + 2) (dmC K) "kind_of" ["self", "tree", "near"] (sp_kind K n)) : CalM P w K mg base (2 * n + 3) (dmC K) "of_use" ["self", "tree", "near", "own"] (sp_of_use K n) := by
  obtain ⟨fd, F⟩ := T.F_Demands_of_use
  refine mk_calM F T.m_of_use (fun _ _ _ _ _ _ us hl => match us, hl with | [_, _, _, _], _ => rfl) (mk_ok F sc_Demands_of_use (by walk_at "len") fun cdv A outer s H vs Q E hr h => ?_)
  obtain ⟨s0, l, d, c, rs, tb, v, p, x, as, nd, near, nl, ar, nls, ov, o, rfl, R, hv, hdp, ok, snd, hrs, ho, q⟩ := h
  refine ⟨_, (pss_one (ps_if (pt_cmp (pc_din (hu_of hr) (pe_ix (ix_seqK (K := K) rfl) (pv 1) pe_int (fun _ _ => rfl)) (pv 2))) (pss_one (ps_expr (pe_calM C_Demands_demand T.cls (pv 0) hr (pa_cons (pe_ix (ix_seqK (K := K) rfl) (pv 1) pe_int (fun _ _ => rfl)) (pa_cons (pv 3) (pa_cons (pe_dget (hu_of hr) (pv 2) (pe_ix (ix_seqK (K := K) rfl) (pv 1) pe_int (fun _ _ => rfl)) (fun _ _ => rfl)) pa_nil)))))) (pss_cons (ps_asg (pe_dget (hu_of hr) (pe_fld (pv 0) rfl) (pe_ix (ix_seqK (K := K) rfl) (pv 1) pe_int (fun _ _ => rfl)) (fun _ _ => rfl)) (pg_tup rfl (pgs_cons (pg_name (i := 4) sc_Demands_of_use.nd rfl (by first | exact Or.inl rfl | exact Or.inr rfl)) (pgs_cons (pg_name (i := 5) sc_Demands_of_use.nd rfl (by first | exact Or.inl rfl | exact Or.inr rfl)) pgs_nil)))) (pss_cons (ps_for PassesOwn.never rfl (pi_zipB false true (by rfl) T.b_zip (pa_cons (pv 4) (pa_cons (pe_ix (ix_seqK (K := K) rfl) (pv 1) pe_int (fun _ _ => rfl)) pa_nil))) (pg_tup rfl (pgs_cons (pg_name (i := 6) sc_Demands_of_use.nd rfl (by first | exact Or.inl rfl | exact Or.inr rfl)) (pgs_cons (pg_name (i := 7) sc_Demands_of_use.nd rfl (by first | exact Or.inl rfl | exact Or.inr rfl)) pgs_nil))) (pss_one (ps_expr (pe_calM C_Demands_demand T.cls (pv 0) hr (pa_cons (pe_ix (ix_seqK (K := K) rfl) (pv 1) pe_int (fun _ _ => rfl)) (pa_cons (pv 6) (pa_cons (pe_calM C_Demands_kind_of T.cls (pv 0) hr (pa_cons (pv 7) (pa_cons (pv 2) pa_nil))) pa_nil))))))) (pss_one (ps_expr (pe_calM C_Demands_demand T.cls (pv 0) hr (pa_cons (pe_ix (ix_seqK (K := K) rfl) (pv 1) pe_int (fun _ _ => rfl)) (pa_cons (pv 3) (pa_cons (pv 5) pa_nil)))))))))), ?_⟩
  have hsz := szs_eq (.use p x as)
  have hop : Tree.subs (.use p x as) = as := rfl
  rw [tr_use] at hv
  obtain ⟨kvn, hn1, hn2, hn3⟩ := R.N
  have hn3 := hn3 x
  walk_at "rr"
  refine r_ix_str hv 2 rfl ?_
  walk_at "rr"
  refine r_din_s hn1 ?_
  walk_at "rr"
  have hnls := R.nls x
  cases hnx : near x with
  | some k =>
    rw [hnx] at hn3
    obtain ⟨kv, hk1, hk2⟩ := hn3
    refine r_yes (by rw [hk1]; rfl) ?_
    walk_at "rr"
    refine r_self rfl R.D (by simp) ?_
    walk_at "rr"
    refine r_ix hv 1 rfl fun plv hp => ?_
    walk_at "rr"
    refine r_ix_str hv 2 rfl ?_
    walk_at "rr"
    refine r_dget_s hn1 hk1 ?_
    walk_at "rr"
    refine ⟨s0, l, d, _, _, tb, plv, ov, kv, (p, o, k), rfl, R.D, by omega, hp, ho, hk2, fun H1 k1 D1 => ?_⟩
    walk_at "rr"
    refine q H1 k1 ?_
    have e : genUse tb n p x as near o c = ([(p, o, k)], c) := by
      unfold genUse
      rw [hnx]
    rw [e]
    exact D1.r
  | none =>
    rw [hnx] at hn3 hnls
    refine r_no (by rw [hn3]; rfl) ?_
    have hx : x ∉ nls := fun hm => by simpa using hnls.mp hm
    have hlen : ar x = some as.length := by
      rcases snd.here with ⟨h1, _⟩ | ⟨_, h2⟩
      · exact absurd h1 hx
      · exact h2
    have har := R.ar x
    obtain ⟨dx, hi⟩ := R.D.ins
    obtain ⟨kvt, ht1, ht2⟩ := R.D.tab
    have ht2 := ht2 x
    cases htb : tb x with
    | none =>
      rw [htb, hlen] at har
      simp at har
    | some pr =>
      obtain ⟨ks, kk⟩ := pr
      rw [htb] at ht2 har
      have hks : ks.length = as.length := by
        rw [hlen] at har
        simpa using har.symm
      obtain ⟨p1, q1, vs1, v1, g1, g2, g3, g4, g5, g6⟩ := ht2
      have hvk : vs1.length = ks.length := by rw [g5.1, List.length_map]
      have hq1 : q1 ∉ [s0, l] := by
        have := ne_kind hi g3 (by simp)
        simp [g4, Ne.symm this]
      walk_at "rr"
      refine r_selfF rfl hi T.cls T.no_table rfl ?_
      walk_at "rr"
      refine r_ix_str hv 2 rfl ?_
      refine r_dget_s ht1 g1 ?_
      refine r_gTup rfl g2 rfl ?_
      walk_at "rr"
      refine r_ix hv 3 rfl fun va h3 => ?_
      walk_at "rr"
      obtain ⟨a3, xs3, rfl, ha3, ts3⟩ := h3.inv
      have hx3 : xs3.length = as.length := by rw [ts3.1, List.length_map]
      refine ⟨q1, a3, vs1, xs3, rfl, sqBl g3, sqBt ha3, ?_⟩
      refine forW (walk_zipB (b := false) (c := true) (xs := vs1) (ys := xs3) (by omega)) (fun i σ H' => ∃ o6 o7, σ = [some (.ref s0), some v, some (.ref nd), some ov, some (.ref q1), some v1, o6, o7] ∧ Kp [s0, l] H H' ∧ DmR K H' s0 l d (genArgs (fun t c => gen tb n t near c) p (ks.take i) (as.take i) c).2 (rs ++ (genArgs (fun t c => gen tb n t near c) p (ks.take i) (as.take i) c).1)) ⟨none, none, rfl, Kp.refl _ _, by simpa [genArgs] using R.D.r⟩ ?_ ?_ ?_
      · rintro i σ H' _ ⟨_, _, _, k, _⟩
        exact ⟨sqBl (k.at g3 hq1), sqBt (k.atT ha3)⟩
      · rintro i y σ H1 H2 hi2 ⟨o6, o7, rfl, k1, r1⟩ yy
        obtain ⟨T2, ya, yb, rfl, nT, kT, eT, hya, hyb⟩ := YPair.use yy
        have k2 : Kp [s0, l] H H2 := k1.trans (kT.mono (by simp))
        have r2 := ((R.D.re k1 r1).mono0 kT).r
        obtain ⟨kj, hkj, hkij, htj⟩ := g5.map_get hya
        obtain ⟨aj, haj, haij, htaj⟩ := ts3.map_get hyb
        have hst := szs_take haij
        have hgl : (genArgs (fun t c => gen tb n t near c) p (ks.take i) (as.take i) c).1.length ≤ 6 * szs (as.take i) := genArgs_len (fun t c => gen_len tb n t near c) _ _ _
        have Rn := R.mono k2 r2
        refine r_gTup rfl eT rfl ?_
        walk_at "rr"
        refine r_self rfl Rn.D (by simp) ?_
        walk_at "rr"
        refine r_ix (hv.mono k2) 1 rfl fun plv hp => ?_
        walk_at "rr"
        refine r_self rfl Rn.D (by simp) ?_
        walk_at "rr"
        rw [hop] at hsz
        refine ⟨s0, l, d, _, _, tb, yb, aj, nd, near, nl, ar, nls, rfl, Rn, htaj.mono k2, hdp.sub haj, ok.sub haj, snd.sub (q := (aj, nls)) (by simp [scop, hop]; exact haj), by rw [List.length_append]; omega, fun v' H3 k3 r3 tv => ?_⟩
        have D3 := R.D.re (k2.trans k3) r3
        have hgn := gen_len tb n aj near (genArgs (fun t c => gen tb n t near c) p (ks.take i) (as.take i) c).2
        refine ⟨s0, l, d, _, _, tb, plv, ya, v', (p, kj, _), rfl, D3, by simp only [List.length_append]; omega, hp.mono k3, htj.mono (k2.trans k3), tv, fun H4 k4 D4 => ?_⟩
        walk_at "rr"
        refine ⟨_, _, rfl, k2.trans (k3.trans k4), ?_⟩
        rw [take_snoc hkij, take_snoc haij, genArgs_snoc _ _ _ _ _ _ _ (by rw [List.length_take, List.length_take, hks])]
        have D4 := D4.r
        simp only [List.append_assoc] at D4 ⊢
        exact D4
      · rintro σ H1 ⟨o6, o7, rfl, k1, r1⟩
        have e1 : ks.take vs1.length = ks := by rw [hvk, List.take_length]
        have e2 : as.take vs1.length = as := by rw [hvk, hks, List.take_length]
        rw [e1, e2] at r1
        have D1 := R.D.re k1 r1
        have hgl : (genArgs (fun t c => gen tb n t near c) p ks as c).1.length ≤ 6 * szs as := genArgs_len (fun t c => gen_len tb n t near c) _ _ _
        rw [hop] at hsz
        walk_at "rr"
        refine r_self rfl D1 (by simp) ?_
        walk_at "rr"
        refine r_ix (hv.mono k1) 1 rfl fun plv hp => ?_
        walk_at "rr"
        refine ⟨s0, l, d, _, _, tb, plv, ov, v1, (p, o, kk), rfl, D1, by rw [List.length_append]; omega, hp, ho.mono k1, g6.mono k1, fun H4 k4 D4 => ?_⟩
        walk_at "rr"
        refine q H4 (k1.trans k4) ?_
        have e : genUse tb n p x as near o c = ((genArgs (fun t c => gen tb n t near c) p ks as c).1 ++ [(p, o, kk)], (genArgs (fun t c => gen tb n t near c) p ks as c).2) := by
          unfold genUse
          rw [hnx, htb]
        rw [e]
        have D4 := D4.r
        simp only [List.append_assoc] at D4 ⊢
        exact D4
end
section
variable {P : Program} {w : World} {K : PySem.W.Frag} {mg : Str → Option Value} {base : Heap}
def genCase (tb : Tab') (n : Nat) (p : Pl) (w e : Tree) (h t : Str) (b : Tree) (near : Env') (o : Kd) (c : Nat) : List Row × Nat :=
  let W := gen tb n w near (c + 2)
  let E := gen tb n e near W.2
  let B := gen tb n b ((near.put h (an c)).put t (an (c + 1))) E.2
  (W.1 ++ ((p, an (c + 2), .lst (an c)) :: (p, an (c + 1), an (c + 2)) :: (E.1 ++ ((p, o, an W.2) :: (B.1 ++ [(p, o, an E.2)])))), B.2)
def sp_of_case (K : PySem.W.Frag) (n : Nat) : Sp := fun vs H Q _ => ∃ (s l d : Addr) (c : Nat) (rs : List Row) (tb : Tab') (v : V) (p : Pl) (tw te : Tree) (x y : Str) (b : Tree) (nd : Addr) (near : Env') (nl : Nat) (ar : Str → Option Nat) (nls : List Str) (ov : V) (o : Kd), vs = [.ref s, v, .ref nd, ov] ∧ Rdy K H s l d c rs tb nd near nl (n + 1) ar nls ∧ TD H v (tr (.cs p tw te x y b)) ∧
  Dep (n + 1) (.cs p tw te x y b) ∧ AllT okN (.cs p tw te x y b) ∧ Snd ar nls (.cs p tw te x y b) ∧ rs.length + 6 * sz (.cs p tw te x y b) ≤ 800 ∧ TD H ov (kd o) ∧
  ∀ H', Kp [s, l] H H' → DmR K H' s l d (genCase tb n p tw te x y b near o c).2 (rs ++ (genCase tb n p tw te x y b near o c).1) → Q .non H'
theorem sc_Demands_of_case : FnScope ["self", "tree", "near", "own", "inner", "what"] ["self", "tree", "near", "own"] (defScope s_Demands_of_case) := ⟨rfl, rfl, rfl, by decide +kernel, rfl, by decide +kernel, by decide +kernel⟩
theorem c_of_case {n : Nat} (T : Txt K mg) (C_Demands_new : CalM P w K mg base 1 (dmC K) "new" ["self"] (sp_new K)) (C_Demands_demand : CalM P w K mg base 1 (dmC K) "demand" ["self", "place", "one", "other"] (sp_demand K)) (C_Demands_kind_of : CalM P w K mg base (2 * n + 2) (dmC K) "kind_of" ["self", "tree", "near"] (sp_kind K n)) : CalM P w K mg base (2 * n + 3) (dmC K) "of_case" ["self", "tree", "near", "own"] (sp_of_case K n) := by
  obtain ⟨fd, F⟩ := T.F_Demands_of_case
  refine mk_calM F T.m_of_case (fun _ _ _ _ _ _ us hl => match us, hl with | [_, _, _, _], _ => rfl) (mk_ok F sc_Demands_of_case (by walk_at "len") fun cdv A outer s H vs Q E hr h => ?_)
  obtain ⟨s0, l, d, c, rs, tb, v, p, tw, te, x, y, b, nd, near, nl, ar, nls, ov, o, rfl, R, hv, hdp, ok, snd, hrs, ho, q⟩ := h
  refine ⟨_, (pss_cons (ps_set (i := 4) sc_Demands_of_case.nd rfl (by first | exact Or.inl rfl | exact Or.inr rfl) (pe_callTy call_dictOf (by rfl) T.b_dict (by decide +kernel) (pa_cons (pv 2) pa_nil))) (pss_cons (ps_asg (pe_tupK (pa_cons (pe_calM0 C_Demands_new T.cls (pv 0) hr) (pa_cons (pe_calM0 C_Demands_new T.cls (pv 0) hr) pa_nil))) (pg_tup rfl (pgs_cons (pg_sub (pv 4) (pe_ix (ix_seqK (K := K) rfl) (pv 1) pe_int (fun _ _ => rfl)) (set_dict (hu_of hr))) (pgs_cons (pg_sub (pv 4) (pe_ix (ix_seqK (K := K) rfl) (pv 1) pe_int (fun _ _ => rfl)) (set_dict (hu_of hr))) pgs_nil)))) (pss_cons (ps_set (i := 5) sc_Demands_of_case.nd rfl (by first | exact Or.inl rfl | exact Or.inr rfl) (pe_calM C_Demands_kind_of T.cls (pv 0) hr (pa_cons (pe_ix (ix_seqK (K := K) rfl) (pv 1) pe_int (fun _ _ => rfl)) (pa_cons (pv 2) pa_nil)))) (pss_cons (ps_expr (pe_calM C_Demands_demand T.cls (pv 0) hr (pa_cons (pe_ix (ix_seqK (K := K) rfl) (pv 1) pe_int (fun _ _ => rfl)) (pa_cons (pv 5) (pa_cons (pe_tupK (pa_cons pe_str (pa_cons (pe_dget (hu_of hr) (pv 4) (pe_ix (ix_seqK (K := K) rfl) (pv 1) pe_int (fun _ _ => rfl)) (fun _ _ => rfl)) pa_nil))) pa_nil))))) (pss_cons (ps_expr (pe_calM C_Demands_demand T.cls (pv 0) hr (pa_cons (pe_ix (ix_seqK (K := K) rfl) (pv 1) pe_int (fun _ _ => rfl)) (pa_cons (pe_dget (hu_of hr) (pv 4) (pe_ix (ix_seqK (K := K) rfl) (pv 1) pe_int (fun _ _ => rfl)) (fun _ _ => rfl)) (pa_cons (pv 5) pa_nil))))) (pss_cons (ps_expr (pe_calM C_Demands_demand T.cls (pv 0) hr (pa_cons (pe_ix (ix_seqK (K := K) rfl) (pv 1) pe_int (fun _ _ => rfl)) (pa_cons (pv 3) (pa_cons (pe_calM C_Demands_kind_of T.cls (pv 0) hr (pa_cons (pe_ix (ix_seqK (K := K) rfl) (pv 1) pe_int (fun _ _ => rfl)) (pa_cons (pv 2) pa_nil))) pa_nil))))) (pss_one (ps_expr (pe_calM C_Demands_demand T.cls (pv 0) hr (pa_cons (pe_ix (ix_seqK (K := K) rfl) (pv 1) pe_int (fun _ _ => rfl)) (pa_cons (pv 3) (pa_cons (pe_calM C_Demands_kind_of T.cls (pv 0) hr (pa_cons (pe_ix (ix_seqK (K := K) rfl) (pv 1) pe_int (fun _ _ => rfl)) (pa_cons (pv 4) pa_nil))) pa_nil)))))))))))), ?_⟩
  have hxy : x ≠ y := snd.here
  rw [tr_cs] at hv
  obtain ⟨kvn, hn1, hn2, _⟩ := id R.N
  have hroom := R.room
  walk_at "rr"
  refine ⟨nd, kvn, rfl, hn1, fun di H1 k1 n1 e1 => ?_⟩
  have NI1 := R.N.copy hn1 k1 e1
  have D1 := R.D.mono0 k1
  have nd1 : nd ≠ di := ne_of_none hn1 n1
  obtain ⟨sd, ld, _⟩ := R.D.new_ne n1
  walk_at "rr"
  refine r_self rfl D1 (by simp) ?_
  walk_at "rr"
  refine ⟨s0, l, d, _, _, tb, rfl, D1, fun av H2 k2 D2 ta => ?_⟩
  refine r_self rfl D2 (by simp) ?_
  walk_at "rr"
  refine ⟨s0, l, d, _, _, tb, rfl, D2, fun bv H3 k3 D3 tb3 => ?_⟩
  refine ⟨by simp, fun p4 H4 k4 n4 e4 => ?_⟩
  have k04 : Kp [s0, l] H H4 := (k1.mono (by simp)).trans (k2.trans (k3.trans (k4.mono (by simp))))
  have D4 := D3.mono0 k4
  have NI4 := (D3.mono0 k4).nr (Kp.refl _ _) ((D2.nr k3 (D1.nr k2 NI1)).mono0 k4)
  refine r_gTup rfl e4 rfl ?_
  walk_at "rr"
  refine r_ix_str (hv.mono k04) 4 rfl ?_
  obtain ⟨kv4, hd4, hl4⟩ := NI4.at
  refine r_setD_s hd4 (by omega) fun H5 k5 e5 => ?_
  have NI5 := NI4.put hd4 ((ta.mono k3).mono k4) k5 e5
  have k05 := k04.fresh n1 k5
  walk_at "rr"
  refine r_ix_str (hv.mono k05) 5 rfl ?_
  refine r_setD_s e5 (by obtain ⟨kv5, hd5, hl5⟩ := NI5.at; rw [e5] at hd5; cases hd5; omega) fun H6 k6 e6 => ?_
  have NI6 := NI5.put e5 ((tb3.mono k4).mono k5) k6 e6
  have k06 := k05.fresh n1 k6
  have r6 := ((D4.r.mono k5 sd ld).mono k6 sd ld)
  have hsz : sz (.cs p tw te x y b) = 1 + (sz tw + (sz te + sz b)) := by simp [sz]
  have g1 := gen_len tb n tw near (c + 1 + 1)
  have g2 := gen_len tb n te near (gen tb n tw near (c + 1 + 1)).2
  have R6 := R.mono k06 r6
  walk_at "rr"
  refine r_self rfl R6.D (by simp) ?_
  walk_at "rr"
  refine r_ix (hv.mono k06) 2 rfl fun wv hw => ?_
  walk_at "rr"
  have R6' : Rdy K H6 s0 l d (c + 1 + 1) rs tb nd near nl n ar nls := ⟨R6.D, R6.N, R6.ar, R6.nls, by omega⟩
  refine ⟨s0, l, d, _, _, tb, wv, tw, nd, near, nl, ar, nls, rfl, R6', hw, hdp.sub (by simp [Tree.subs]), ok.sub (by simp [Tree.subs]), snd.sub (q := (tw, nls)) (by simp [scop]), by omega, fun v7 H7 k7 r7 t7 => ?_⟩
  have D7 := R6.D.re k7 r7
  have k07 := k06.trans k7
  have NI7 := R6.D.nr k7 NI6
  walk_at "rr"
  refine r_self rfl D7 (by simp) ?_
  walk_at "rr"
  refine r_ix (hv.mono k07) 1 rfl fun plv hp => ?_
  walk_at "rr"
  refine r_ix_str (hv.mono k07) 4 rfl ?_
  refine r_nr_get NI7 (k := an c) (by simp [Env'.put, hxy]) fun hv7 th7 => ?_
  refine ⟨by simp, fun p8 H8 k8 n8 e8 => ?_⟩
  refine ⟨s0, l, d, _, _, tb, plv, v7, _, (p, an (c + 2), .lst (an c)), rfl, D7.mono0 k8, by rw [List.length_append]; omega, hp.mono k8, t7.mono k8, TD.mk e8 (.cons (.str _) (.cons (th7.mono k8) .nil)), fun H9 k9 D9 => ?_⟩
  have k79 : Kp [s0, l] H7 H9 := (k8.mono (by simp)).trans k9
  have k09 := k07.trans k79
  have NI9 := D7.nr k79 NI7
  walk_at "rr"
  refine r_self rfl D9 (by simp) ?_
  walk_at "rr"
  refine r_ix (hv.mono k09) 1 rfl fun plv hp => ?_
  walk_at "rr"
  refine r_ix_str (hv.mono k09) 5 rfl ?_
  refine r_nr_get NI9 (k := an (c + 1)) (by simp [Env'.put]) fun tv9 th9 => ?_
  walk_at "rr"
  refine ⟨s0, l, d, _, _, tb, plv, tv9, v7, (p, an (c + 1), an (c + 2)), rfl, D9, by simp only [List.length_append, List.length_cons, List.length_nil]; omega, hp, th9, t7.mono k79, fun H10 k10 D10 => ?_⟩
  have k010 := k09.trans k10
  have NI10 := D9.nr k10 NI9
  walk_at "rr"
  refine r_self rfl D10 (by simp) ?_
  walk_at "rr"
  refine r_ix (hv.mono k010) 1 rfl fun plv hp => ?_
  walk_at "rr"
  refine r_self rfl D10 (by simp) ?_
  walk_at "rr"
  refine r_ix (hv.mono k010) 3 rfl fun ev he => ?_
  walk_at "rr"
  have R10 := R6'.mono ((k7.trans k79).trans k10) D10.r
  refine ⟨s0, l, d, _, _, tb, ev, te, nd, near, nl, ar, nls, rfl, R10, he, hdp.sub (by simp [Tree.subs]), ok.sub (by simp [Tree.subs]), snd.sub (q := (te, nls)) (by simp [scop]), by simp only [List.length_append, List.length_cons, List.length_nil]; omega, fun v11 H11 k11 r11 t11 => ?_⟩
  have D11 := D10.re k11 r11
  refine ⟨s0, l, d, _, _, tb, plv, ov, v11, (p, o, _), rfl, D11, by simp only [List.length_append, List.length_cons, List.length_nil]; omega, hp.mono k11, ho.mono (k010.trans k11), t11, fun H12 k12 D12 => ?_⟩
  have k1012 := k11.trans k12
  have k012 := k010.trans k1012
  have NI12 := D10.nr k1012 NI10
  walk_at "rr"
  refine r_self rfl D12 (by simp) ?_
  walk_at "rr"
  refine r_ix (hv.mono k012) 1 rfl fun plv hp => ?_
  walk_at "rr"
  refine r_self rfl D12 (by simp) ?_
  walk_at "rr"
  refine r_ix (hv.mono k012) 6 rfl fun bv hb => ?_
  walk_at "rr"
  have R12 : Rdy K H12 s0 l d _ _ tb di ((near.put x (an c)).put y (an (c + 1))) (nl + 1 + 1) n ar (nls ++ [x, y]) := ⟨D12, NI12, R.ar, fun z => by
    have := R.nls z
    simp only [List.mem_append, List.mem_cons, List.not_mem_nil, or_false, this, Env'.put]
    by_cases hz : z = y
    · simp [hz]
    · by_cases hz2 : z = x
      · simp [hz, hz2, hxy]
      · simp [hz, hz2], by omega⟩
  refine ⟨s0, l, d, _, _, tb, bv, b, di, _, _, ar, _, rfl, R12, hb, hdp.sub (by simp [Tree.subs]), ok.sub (by simp [Tree.subs]), snd.sub (q := (b, nls ++ [x, y])) (by simp [scop]), by simp only [List.length_append, List.length_cons, List.length_nil]; omega, fun v13 H13 k13 r13 t13 => ?_⟩
  have g3 := gen_len tb n b ((near.put x (an c)).put y (an (c + 1))) (gen tb n te near (gen tb n tw near (c + 1 + 1)).2).2
  have D13 := D12.re k13 r13
  refine ⟨s0, l, d, _, _, tb, plv, ov, v13, (p, o, _), rfl, D13, by simp only [List.length_append, List.length_cons, List.length_nil]; omega, hp.mono k13, ho.mono (k012.trans k13), t13, fun H14 k14 D14 => ?_⟩
  walk_at "rr"
  refine q H14 (k012.trans (k13.trans k14)) ?_
  have D14 := D14.r
  unfold genCase
  simp only [List.append_assoc, List.cons_append, List.nil_append] at D14 ⊢
  exact D14
end
section
variable {P : Program} {w : World} {K : PySem.W.Frag} {mg : Str → Option Value} {base : Heap}
theorem sc_Demands_kind_of : FnScope ["self", "tree", "near", "own", "word", "place", "test", "yes", "no", "one", "inner"] ["self", "tree", "near"] (defScope s_Demands_kind_of) := ⟨rfl, rfl, rfl, by decide +kernel, rfl, by decide +kernel, by decide +kernel⟩
theorem c_kind0 (T : Txt K mg) : CalM P w K mg base 2 (dmC K) "kind_of" ["self", "tree", "near"] (sp_kind K 0) := by
  obtain ⟨fd, F⟩ := T.F_Demands_kind_of
  have no : ∀ vs H Q E, ¬ sp_kind K 0 vs H Q E := fun vs H Q E h => by
    obtain ⟨_, _, _, _, _, _, _, _, _, _, _, _, _, _, _, _, d, _⟩ := h
    cases d
  exact mk_calM F T.m_kind_of (fun _ _ _ _ _ _ us hl => match us, hl with | [_, _, _], _ => rfl) ⟨fun vs H Q E h => absurd h (no vs H Q E), fun A outer s H args us vs Q E _ _ _ _ h => absurd h (no vs H Q E)⟩
theorem c_kind1 {n : Nat} (T : Txt K mg) (C_subtrees : Cal P w K mg base 1 "subtrees" ["tree"] sp_subtrees) (C_Demands_new : CalM P w K mg base 1 (dmC K) "new" ["self"] (sp_new K)) (C_Demands_demand : CalM P w K mg base 1 (dmC K) "demand" ["self", "place", "one", "other"] (sp_demand K)) (C_Demands_kind_of : CalM P w K mg base (2 * n + 2) (dmC K) "kind_of" ["self", "tree", "near"] (sp_kind K n))
    (C_Demands_of_use : CalM P w K mg base (2 * n + 3) (dmC K) "of_use" ["self", "tree", "near", "own"] (sp_of_use K n)) (C_Demands_of_op : CalM P w K mg base (2 * n + 3) (dmC K) "of_op" ["self", "tree", "near", "own"] (sp_of_op K n)) (C_Demands_of_case : CalM P w K mg base (2 * n + 3) (dmC K) "of_case" ["self", "tree", "near", "own"] (sp_of_case K n)) :
    CalM P w K mg base (2 * n + 4) (dmC K) "kind_of" ["self", "tree", "near"] (sp_kind K (n + 1)) := by
  obtain ⟨fd, F⟩ := T.F_Demands_kind_of
  refine mk_calM F T.m_kind_of (fun _ _ _ _ _ _ us hl => match us, hl with | [_, _, _], _ => rfl) (mk_ok F sc_Demands_kind_of (by walk_at "len") fun cdv A outer s H vs Q E hr h => ?_)
  obtain ⟨s0, l, d, c, rs, tb, v, t, nd, near, nl, ar, nls, rfl, R, hv, hdp, ok, snd, hrs, q⟩ := h
  refine ⟨_, (pss_cons (ps_set (i := 3) sc_Demands_kind_of.nd rfl (by first | exact Or.inl rfl | exact Or.inr rfl) (pe_calM0 C_Demands_new T.cls (pv 0) hr)) (pss_cons (ps_par (i := 4) (j := 5) (by rfl) sc_Demands_kind_of.nd rfl rfl (by decide) rfl rfl (pa_cons (pe_ix (ix_seqK (K := K) rfl) (pv 1) pe_int (fun _ _ => rfl)) (pa_cons (pe_ix (ix_seqK (K := K) rfl) (pv 1) pe_int (fun _ _ => rfl)) pa_nil)) (by rfl)) (pss_cons (ps_if (pt_cmpR (op_eqXK (K := K) hr rfl) (pv 4) pe_str (nomark _)) (pss_one (ps_expr (pe_calM C_Demands_demand T.cls (pv 0) hr (pa_cons (pv 5) (pa_cons (pv 3) (pa_cons pe_str pa_nil)))))) (pss_one (ps_if (pt_cmpR (op_eqXK (K := K) hr rfl) (pv 4) pe_str (nomark _)) (pss_one (ps_expr (pe_calM C_Demands_demand T.cls (pv 0) hr (pa_cons (pv 5) (pa_cons (pv 3) (pa_cons (pe_tupK (pa_cons pe_str (pa_cons (pe_calM0 C_Demands_new T.cls (pv 0) hr) pa_nil))) pa_nil)))))) (pss_one (ps_if (pt_cmpR (op_eqXK (K := K) hr rfl) (pv 4) pe_str (nomark _)) (pss_one (ps_expr (pe_calM C_Demands_of_use T.cls (pv 0) hr (pa_cons (pv 1) (pa_cons (pv 2) (pa_cons (pv 3) pa_nil)))))) (pss_one (ps_if (pt_cmpR (op_eqXK (K := K) hr rfl) (pv 4) pe_str (nomark _)) (pss_one (ps_expr (pe_calM C_Demands_of_op T.cls (pv 0) hr (pa_cons (pv 1) (pa_cons (pv 2) (pa_cons (pv 3) pa_nil)))))) (pss_one (ps_if (pt_cmpR (op_eqXK (K := K) hr rfl) (pv 4) pe_str (nomark _)) (pss_cons (ps_asg (pe_lc (own := [("one", 9)]) (g := (gName 9)) (tt := tYes) rfl sc_Demands_kind_of.nd (pi_list (pe_cal C_subtrees hr (pa_cons (pv 1) pa_nil))) (blkOk_by (own := [("one", 9)]) (N := ["self", "tree", "near", "own", "word", "place", "test", "yes", "no", "one", "inner"]) (sc := defScope s_Demands_kind_of) (by decide +kernel)) (fun _ _ _ _ _ => (pg_name (i := 9) sc_Demands_kind_of.nd rfl (by first | exact Or.inl rfl | exact Or.inr rfl))) (fun _ _ _ _ _ => pts_nil) (fun _ _ _ _ _ => (pe_calM C_Demands_kind_of T.cls (pv 0) hr (pa_cons (pv 9) (pa_cons (pv 2) pa_nil))))) (pg_unl rfl (pgs_cons (pg_name (i := 6) sc_Demands_kind_of.nd rfl (by first | exact Or.inl rfl | exact Or.inr rfl)) (pgs_cons (pg_name (i := 7) sc_Demands_kind_of.nd rfl (by first | exact Or.inl rfl | exact Or.inr rfl)) (pgs_cons (pg_name (i := 8) sc_Demands_kind_of.nd rfl (by first | exact Or.inl rfl | exact Or.inr rfl)) pgs_nil))))) (pss_cons (ps_expr (pe_calM C_Demands_demand T.cls (pv 0) hr (pa_cons (pv 5) (pa_cons (pv 6) (pa_cons pe_str pa_nil))))) (pss_cons (ps_expr (pe_calM C_Demands_demand T.cls (pv 0) hr (pa_cons (pv 5) (pa_cons (pv 3) (pa_cons (pv 7) pa_nil))))) (pss_one (ps_expr (pe_calM C_Demands_demand T.cls (pv 0) hr (pa_cons (pv 5) (pa_cons (pv 3) (pa_cons (pv 8) pa_nil))))))))) (pss_one (ps_if (pt_cmpR (op_eqXK (K := K) hr rfl) (pv 4) pe_str (nomark _)) (pss_cons (ps_set (i := 10) sc_Demands_kind_of.nd rfl (by first | exact Or.inl rfl | exact Or.inr rfl) (pe_callTy call_dictOf (by rfl) T.b_dict (by decide +kernel) (pa_cons (pv 2) pa_nil))) (pss_cons (ps_dput (hu_of hr) (pv 10) (pe_ix (ix_seqK (K := K) rfl) (pv 1) pe_int (fun _ _ => rfl)) (pe_calM0 C_Demands_new T.cls (pv 0) hr) rfl) (pss_cons (ps_expr (pe_calM C_Demands_demand T.cls (pv 0) hr (pa_cons (pv 5) (pa_cons (pe_dget (hu_of hr) (pv 10) (pe_ix (ix_seqK (K := K) rfl) (pv 1) pe_int (fun _ _ => rfl)) (fun _ _ => rfl)) (pa_cons (pe_calM C_Demands_kind_of T.cls (pv 0) hr (pa_cons (pe_ix (ix_seqK (K := K) rfl) (pv 1) pe_int (fun _ _ => rfl)) (pa_cons (pv 2) pa_nil))) pa_nil))))) (pss_one (ps_expr (pe_calM C_Demands_demand T.cls (pv 0) hr (pa_cons (pv 5) (pa_cons (pv 3) (pa_cons (pe_calM C_Demands_kind_of T.cls (pv 0) hr (pa_cons (pe_ix (ix_seqK (K := K) rfl) (pv 1) pe_int (fun _ _ => rfl)) (pa_cons (pv 10) pa_nil))) pa_nil))))))))) (pss_one (ps_expr (pe_calM C_Demands_of_case T.cls (pv 0) hr (pa_cons (pv 1) (pa_cons (pv 2) (pa_cons (pv 3) pa_nil))))))))))))))))) (pss_one (ps_ret (pv 3)))))), ?_⟩
  have hroom := R.room
  have hszp := sz_pos t
  walk_at "rr"
  refine r_self rfl R.D (by simp) ?_
  walk_at "rr"
  refine ⟨s0, l, d, _, _, tb, rfl, R.D, fun ov H1 k1 D1 to => ?_⟩
  have hv1 := hv.mono k1
  have hv2 := hv1
  rw [tr_eq] at hv2
  have Rn : Rdy K H1 s0 l d (c + 1) rs tb nd near nl n ar nls := ⟨D1, R.D.nr k1 R.N, R.ar, R.nls, by omega⟩
  walk_at "rr"
  refine r_ix_str hv2 0 rfl ?_
  walk_at "rr"
  refine r_ix hv2 1 rfl fun plv hp => ?_
  walk_at "rr"
  cases t with
  | num p i =>
    walk_at "go"
    refine r_self rfl D1 (by simp) ?_
    walk_at "rr"
    refine ⟨s0, l, d, _, _, tb, plv, ov, _, (p, an c, .num), rfl, D1, by omega, hp, to, .str _, fun H2 k2 D2 => ?_⟩
    walk_at "rr"
    exact q _ H2 (k1.trans k2) D2.r (to.mono k2)
  | nil p =>
    walk_at "go"
    refine r_self rfl D1 (by simp) ?_
    walk_at "rr"
    refine r_self rfl D1 (by simp) ?_
    walk_at "rr"
    refine ⟨s0, l, d, _, _, tb, rfl, D1, fun nv H2 k2 D2 tn => ?_⟩
    refine ⟨by simp, fun p3 H3 k3 n3 e3 => ?_⟩
    have k3' : Kp [s0, l] H2 H3 := k3.mono (by simp)
    refine ⟨s0, l, d, _, _, tb, plv, ov, _, (p, an c, .lst (an (c + 1))), rfl, D2.mono0 k3, by omega, hp.mono (k2.trans k3'), to.mono (k2.trans k3'), TD.mk e3 (.cons (.str _) (.cons (tn.mono k3) .nil)), fun H4 k4 D4 => ?_⟩
    walk_at "rr"
    exact q _ H4 (k1.trans (k2.trans (k3'.trans k4))) D4.r (to.mono (k2.trans (k3'.trans k4)))
  | use p x as =>
    walk_at "go"
    refine r_self rfl D1 (by simp) ?_
    walk_at "rr"
    refine ⟨s0, l, d, _, _, tb, v, p, x, as, nd, near, nl, ar, nls, ov, an c, rfl, Rn, hv1, hdp, ok, snd, by omega, to, fun H2 k2 r2 => ?_⟩
    walk_at "rr"
    refine q _ H2 (k1.trans k2) ?_ (to.mono k2)
    have e : gen tb (n + 1) (.use p x as) near c = genUse tb n p x as near (an c) (c + 1) := by
      simp only [gen, genUse]
      try rfl
    rw [e]
    exact r2
  | op p sg a b =>
    walk_at "go"
    refine r_self rfl D1 (by simp) ?_
    walk_at "rr"
    refine ⟨s0, l, d, _, _, tb, v, p, sg, a, b, nd, near, nl, ar, nls, ov, an c, rfl, Rn, hv1, hdp, ok, snd, by omega, to, fun H2 k2 r2 => ?_⟩
    walk_at "rr"
    refine q _ H2 (k1.trans k2) ?_ (to.mono k2)
    simp only [gens, gen, List.append_nil, List.append_assoc] at r2 ⊢
    exact r2
  | ite p x y z =>
    walk_at "go"
    refine ⟨v, _, rfl, hv1, fun l0 ys H2 k2 n2 e2 t2 => ?_⟩
    walk_at "r"
    refine ⟨⟨_, SqL.of e2⟩, ?_⟩
    have k2' : Kp [s0, l] H1 H2 := k2.mono (by simp)
    have R2 := Rn.mono k2' (D1.mono0 k2).r
    have hop : Tree.subs (.ite p x y z) = [x, y, z] := rfl
    refine kinds_lc e2 (D1.new_ne n2).2.1.symm t2 R2 hdp ok (fun u hu => snd.sub (q := (u, nls)) (by simpa [scop] using hu)) (by omega) (by simp [hop]) (fun _ => rfl) (fun _ => rfl) (fun _ => rfl) (fun _ => rfl) fun D0 acc H3 k3 n3 e3 r3 tacc => ?_
    obtain ⟨av, ac2, rfl, ta, tacc⟩ := TDs.cons_inv (show TDs H3 acc [kd (an (c + 1)), kd (an (gen tb n x near (c + 1)).2), kd (an (gen tb n y near (gen tb n x near (c + 1)).2).2)] from tacc)
    obtain ⟨bv, ac3, rfl, tbv, tacc⟩ := tacc.cons_inv
    obtain ⟨zv, ac4, rfl, tz, tacc⟩ := tacc.cons_inv
    cases tacc.nil_inv
    have hgl := gens_len tb n near (Tree.subs (.ite p x y z)) (c + 1)
    have hsz := szs_eq (.ite p x y z)
    have k3' := k2'.trans k3
    have D3 := R2.D.re k3 r3
    refine r_gUnl rfl e3 rfl ?_
    walk_at "rr"
    refine r_self rfl D3 (by simp) ?_
    walk_at "rr"
    refine ⟨s0, l, d, _, _, tb, plv, av, _, (p, an (c + 1), .num), rfl, D3, by simp only [List.length_append] at hgl ⊢; omega, hp.mono k3', ta, .str _, fun H4 k4 D4 => ?_⟩
    walk_at "rr"
    refine r_self rfl D4 (by simp) ?_
    walk_at "rr"
    refine ⟨s0, l, d, _, _, tb, plv, ov, bv, (p, an c, _), rfl, D4, by simp only [List.length_append, List.length_cons, List.length_nil] at hgl ⊢; omega, hp.mono (k3'.trans k4), to.mono (k3'.trans k4), tbv.mono k4, fun H5 k5 D5 => ?_⟩
    walk_at "rr"
    refine r_self rfl D5 (by simp) ?_
    walk_at "rr"
    have k5' := k3'.trans (k4.trans k5)
    refine ⟨s0, l, d, _, _, tb, plv, ov, zv, (p, an c, _), rfl, D5, by simp only [List.length_append, List.length_cons, List.length_nil] at hgl ⊢; omega, hp.mono k5', to.mono k5', tz.mono (k4.trans k5), fun H6 k6 D6 => ?_⟩
    walk_at "rr"
    refine q _ H6 (k1.trans (k5'.trans k6)) ?_ (to.mono (k5'.trans k6))
    have D6 := D6.r
    simp only [hop, gens, gen, List.append_nil, List.append_assoc, List.cons_append, List.nil_append] at D6 ⊢
    exact D6
  | lt p x a b =>
    obtain ⟨kvn, hn1, hn2, _⟩ := id Rn.N
    have hsz : sz (.lt p x a b) = 1 + (sz a + sz b) := by simp [sz]
    rw [tr_lt] at hv1
    walk_at "go"
    refine ⟨nd, kvn, rfl, hn1, fun di H2 k2 n2 e2 => ?_⟩
    have NI2 := Rn.N.copy hn1 k2 e2
    have D2 := D1.mono0 k2
    obtain ⟨sd, ld, _⟩ := D1.new_ne n2
    walk_at "rr"
    refine r_self rfl D2 (by simp) ?_
    walk_at "rr"
    refine ⟨s0, l, d, _, _, tb, rfl, D2, fun nv H3 k3 D3 tn => ?_⟩
    have NI3 := D2.nr k3 NI2
    have k03 : Kp [s0, l] H1 H3 := (k2.mono (by simp)).trans k3
    walk_at "rr"
    refine r_ix_str (hv1.mono k03) 2 rfl ?_
    obtain ⟨kv3, hd3, hl3⟩ := NI3.at
    refine r_dput_s hd3 (by omega) fun H4 k4 e4 => ?_
    have NI4 := NI3.put hd3 tn k4 e4
    have k04 := k03.fresh n2 k4
    have R4 := Rn.mono k04 (D3.r.mono k4 sd ld)
    walk_at "rr"
    refine r_self rfl R4.D (by simp) ?_
    walk_at "rr"
    refine r_ix_str (hv1.mono k04) 2 rfl ?_
    refine r_nr_get NI4 (k := an (c + 1)) (by simp [Env'.put]) fun xv tx => ?_
    walk_at "rr"
    refine r_self rfl R4.D (by simp) ?_
    walk_at "rr"
    refine r_ix (hv1.mono k04) 3 rfl fun av ha => ?_
    walk_at "rr"
    have g1 := gen_len tb n a near (c + 1 + 1)
    refine ⟨s0, l, d, _, _, tb, av, a, nd, near, nl, ar, nls, rfl, R4, ha, hdp.sub (by simp [Tree.subs]), ok.sub (by simp [Tree.subs]), snd.sub (q := (a, nls)) (by simp [scop]), by omega, fun v5 H5 k5 r5 t5 => ?_⟩
    have D5 := R4.D.re k5 r5
    refine ⟨s0, l, d, _, _, tb, plv, xv, v5, (p, an (c + 1), an (c + 2)), rfl, D5, by rw [List.length_append]; omega, hp.mono (k04.trans k5), tx.mono k5, t5, fun H6 k6 D6 => ?_⟩
    have k46 := k5.trans k6
    have k06 := k04.trans k46
    have NI6 := R4.D.nr k46 NI4
    walk_at "rr"
    refine r_self rfl D6 (by simp) ?_
    walk_at "rr"
    refine r_self rfl D6 (by simp) ?_
    walk_at "rr"
    refine r_ix (hv1.mono k06) 4 rfl fun bv hb => ?_
    walk_at "rr"
    have R6 : Rdy K H6 s0 l d _ _ tb di (near.put x (an (c + 1))) (nl + 1) n ar (nls ++ [x]) := ⟨D6, NI6, R.ar, fun z => by
      have := R.nls z
      simp only [List.mem_append, List.mem_cons, List.not_mem_nil, or_false, this, Env'.put]
      by_cases hz2 : z = x
      · simp [hz2]
      · simp [hz2], by omega⟩
    refine ⟨s0, l, d, _, _, tb, bv, b, di, _, _, ar, _, rfl, R6, hb, hdp.sub (by simp [Tree.subs]), ok.sub (by simp [Tree.subs]), snd.sub (q := (b, nls ++ [x])) (by simp [scop]), by simp only [List.length_append, List.length_cons, List.length_nil]; omega, fun v7 H7 k7 r7 t7 => ?_⟩
    have g2 := gen_len tb n b (near.put x (an (c + 1))) (gen tb n a near (c + 1 + 1)).2
    have D7 := D6.re k7 r7
    refine ⟨s0, l, d, _, _, tb, plv, ov, v7, (p, an c, _), rfl, D7, by simp only [List.length_append, List.length_cons, List.length_nil]; omega, hp.mono (k06.trans k7), to.mono (k06.trans k7), t7, fun H8 k8 D8 => ?_⟩
    walk_at "rr"
    refine q _ H8 (k1.trans (k06.trans (k7.trans k8))) ?_ (to.mono (k06.trans (k7.trans k8)))
    have D8 := D8.r
    simp only [gen, List.append_assoc, List.cons_append, List.nil_append] at D8 ⊢
    exact D8
  | cs p tw te x y b =>
    walk_at "go"
    refine r_self rfl D1 (by simp) ?_
    walk_at "rr"
    refine ⟨s0, l, d, _, _, tb, v, p, tw, te, x, y, b, nd, near, nl, ar, nls, ov, an c, rfl, ⟨D1, Rn.N, Rn.ar, Rn.nls, by omega⟩, hv1, hdp, ok, snd, by omega, to, fun H2 k2 r2 => ?_⟩
    walk_at "rr"
    refine q _ H2 (k1.trans k2) ?_ (to.mono k2)
    exact r2
theorem c_kind (T : Txt K mg) (C_subtrees : Cal P w K mg base 1 "subtrees" ["tree"] sp_subtrees) : ∀ n, CalM P w K mg base (2 * n + 2) (dmC K) "kind_of" ["self", "tree", "near"] (sp_kind K n)
  | 0 => c_kind0 T
  | n + 1 => c_kind1 T C_subtrees (c_new T) (c_demand T) (c_kind T C_subtrees n) (c_of_use T (c_demand T) (c_kind T C_subtrees n)) (c_of_op T (c_demand T) C_subtrees (c_kind T C_subtrees n)) (c_of_case T (c_new T) (c_demand T) (c_kind T C_subtrees n))
end
section
variable {P : Program} {w : World} {K : PySem.W.Frag} {mg : Str → Option Value} {base : Heap}
theorem Kp.drop {M M' : List Addr} {H H' : Hp} (k : Kp M' H H') (h : ∀ b ∈ M', b ∈ M ∨ H b = none) : Kp M H H' :=
  ⟨fun b o e n => k.keep b o e fun hm => (h b hm).elim n (fun z => by rw [z] at e; cases e), k.tups, k.there⟩
theorem TbAt.put {H H2 : Hp} {l d : Addr} {tb tb2 : Tab'} {kvs : List (Key × V)} {x : Str} {v : V} {p q : Addr} {vs : List V} {ks : List Kd} {k : Kd} (h : H d = some (.dK kvs)) (N : TbAt H l d tb) (hp : H p = some (.tup [.ref q, v])) (hq : H q = some (.lst vs)) (ql : q ≠ l) (t1 : TDs H vs (ks.map kd)) (t2 : TD H v (kd k))
    (kp : Kp [d] H H2) (h2 : H2 d = some (.dK (putK kvs (.inr x) (.ref p)))) (e2 : ∀ y, tb2 y = if y = x then some (ks, k) else tb y) : TbAt H2 l d tb2 := by
  obtain ⟨kvs', h1, h4⟩ := N
  rw [h] at h1
  cases h1
  refine ⟨_, h2, fun y => ?_⟩
  have h4 := h4 y
  rw [valV_put, e2 y]
  have dq : ∀ q' vs', H q' = some (.lst vs') → q' ∉ [d] := fun q' vs' hq' => ni1 (ne_kind hq' h (by simp))
  by_cases hy : y = x
  · rw [if_pos hy, if_pos (by rw [hy])]
    exact ⟨p, q, vs, v, rfl, kp.atT hp, kp.at hq (dq _ _ hq), ql, t1.mono kp, t2.mono kp⟩
  · rw [if_neg hy, if_neg (fun e => hy (Sum.inr.inj e))]
    split
    · rename_i e
      rw [e] at h4
      exact h4
    · rename_i ks' kk e
      rw [e] at h4
      obtain ⟨p', q', vs', v', g1, g2, g3, g4, g5, g6⟩ := h4
      exact ⟨p', q', vs', v', g1, kp.atT g2, kp.at g3 (dq _ _ g3), g4, g5.mono kp, g6.mono kp⟩
theorem envOf_snoc (ps : List Str) (ks : List Kd) (x : Str) (k : Kd) (h : ps.length = ks.length) : envOf (ps ++ [x]) (ks ++ [k]) = (envOf ps ks).put x k := by
  unfold envOf
  rw [List.zip_append h, List.foldl_append]
  rfl
/-- the dict that dict(zip(..)) makes -/
theorem nr_zip {H : Hp} : ∀ {ps : List Str} {vs : List V} {ks : List Kd} {kvs : List (Key × V)} {e : Env'}, vs.length = ps.length → TDs H vs (ks.map kd) →
    (∀ x, match e x with
      | none => valV kvs (.inr x) = none
      | some k => ∃ v, valV kvs (.inr x) = some v ∧ TD H v (kd k)) →
    ∀ x, match ((ps.zip ks).foldl (fun e q => e.put q.1 q.2) e) x with
      | none => valV (mergeK kvs ((ps.map Sum.inr).zip vs)) (.inr x) = none
      | some k => ∃ v, valV (mergeK kvs ((ps.map Sum.inr).zip vs)) (.inr x) = some v ∧ TD H v (kd k)
  | [], _, _, _, _, _, _, h => h
  | p :: ps, [], _, _, _, hl, _, _ => by simp at hl
  | p :: ps, v :: vs, [], _, _, _, t, _ => by simp [TDs] at t
  | p :: ps, v :: vs, k :: ks, kvs, e, hl, t, h => by
    refine nr_zip (ps := ps) (vs := vs) (ks := ks) (kvs := putK kvs (.inr p) v) (e := e.put p k) (by simpa using hl) t.tail fun x => ?_
    have h := h x
    rw [valV_put]
    unfold Env'.put
    by_cases hy : x = p
    · rw [if_pos hy, if_pos (by rw [hy])]
      exact ⟨v, rfl, t.head⟩
    · rw [if_neg hy, if_neg (fun e => hy (Sum.inr.inj e))]
      exact h
theorem envOf_some : ∀ (ps : List Str) (ks : List Kd) (e : Env') (x : Str), ps.length = ks.length → ((((ps.zip ks).foldl (fun e q => e.put q.1 q.2) e) x).isSome = true ↔ (x ∈ ps ∨ (e x).isSome = true))
  | [], ks, e, x, _ => by simp
  | p :: ps, [], e, x, h => by simp at h
  | p :: ps, k :: ks, e, x, h => by
    have := envOf_some ps ks (e.put p k) x (by simpa using h)
    simp only [List.zip_cons_cons, List.foldl_cons, this, List.mem_cons, Env'.put]
    by_cases hx : x = p
    · simp [hx]
    · simp [hx]
theorem tbOf_ar : ∀ (ds : List Df) (c : Nat) (x : Str), arL ds x = (tbOf ds (heads ds c).1 x).map fun p => p.1.length
  | [], c, x => by simp [arL, tbOf, heads]
  | d :: ds, c, x => by
    rw [arL_cons, tbOf_ar ds (c + d.params.length + 1) x]
    unfold tbOf
    by_cases h : d.name = x
    · simp [heads, h, headOf]
    · simp [heads, h]
theorem heads_at {ds : List Df} {i : Nat} {d : Df} (h : ds[i]? = some d) (c : Nat) : (heads ds c).1[i]? = some (headOf (heads (ds.take i) c).2 d) := by
  have e : ds = ds.take i ++ d :: ds.drop (i + 1) := by
    obtain ⟨hi, rfl⟩ := List.getElem?_eq_some_iff.mp h
    rw [← List.drop_eq_getElem_cons hi, List.take_append_drop]
  have hl : (ds.take i).length = i := by
    have := (List.getElem?_eq_some_iff.mp h).1
    rw [List.length_take]
    omega
  have app : ∀ (a b : List Df) (c : Nat), (heads (a ++ b) c).1 = (heads a c).1 ++ (heads b (heads a c).2).1 := by
    intro a
    induction a with
    | nil => intro b c; simp [heads]
    | cons u a ih => intro b c; simp [heads, ih]
  have e2 : (heads ds c).1 = (heads (ds.take i) c).1 ++ (heads (d :: ds.drop (i + 1)) (heads (ds.take i) c).2).1 := by
    rw [← app]
    exact congrArg (fun z => (heads z c).1) e
  rw [e2, List.getElem?_append_right (by rw [heads_len, hl]; exact Nat.le_refl _), heads_len, hl]
  simp [heads]
theorem tbOf_at {ds : List Df} (nd : (ds.map Df.name).Nodup) {hs : List (List Kd × Kd)} {i : Nat} {d : Df} {h : List Kd × Kd} (h1 : ds[i]? = some d) (h2 : hs[i]? = some h) : tbOf ds hs d.name = some h := by
  induction ds generalizing hs i with
  | nil => simp at h1
  | cons u ds ih =>
    cases hs with
    | nil => simp at h2
    | cons g hs =>
      cases i with
      | zero =>
        simp at h1 h2
        subst h1 h2
        simp [tbOf]
      | succ i =>
        simp only [List.getElem?_cons_succ] at h1 h2
        obtain ⟨n1, n2⟩ := List.nodup_cons.mp nd
        have hne : u.name ≠ d.name := fun e => n1 (by rw [e]; exact List.mem_map_of_mem (List.mem_of_getElem? h1))
        have := ih n2 h1 h2
        unfold tbOf at this ⊢
        rw [List.zip_cons_cons, List.find?_cons_of_neg (by simp [hne])]
        exact this
def sp_init (K : PySem.W.Frag) : Sp := fun vs H Q _ => ∃ (s dx : Addr) (v : V) (p : List Df), vs = [.ref s, v] ∧ H s = some (.ins (dmC K) dx []) ∧ TD H v (.tuple (p.map df)) ∧ Sound p ∧ 6 * szP p ≤ 700 ∧
  ∀ l d H', Kp [s] H H' → DmAt K H' s l d (ctP p) (rsP p) (tbP p) → Q .non H'
theorem sc_Demands___init__ : FnScope ["self", "program", "one", "param", "params", "own"] ["self", "program"] (defScope s_Demands___init__) := ⟨rfl, rfl, rfl, by decide +kernel, rfl, by decide +kernel, by decide +kernel⟩
theorem c_init (T : Txt K mg) (C_Demands_new : CalM P w K mg base 1 (dmC K) "new" ["self"] (sp_new K)) (C_Demands_demand : CalM P w K mg base 1 (dmC K) "demand" ["self", "place", "one", "other"] (sp_demand K)) (C_Demands_kind_of : CalM P w K mg base 22 (dmC K) "kind_of" ["self", "tree", "near"] (sp_kind K 10)) :
    ∃ fd, Binds K fd ["self", "program"] [] ∧ FnOk P w K mg base CX0 23 (He.ma K (He.ga K "Demands") "__init__") fd ["self", "program"] (sp_init K) := by
  obtain ⟨fd, F⟩ := T.F_Demands___init__
  refine ⟨fd, F.bindsN (fun _ _ _ _ _ _ us hl => match us, hl with | [_, _], _ => rfl), mk_ok F sc_Demands___init__ (by walk_at "len") fun cdv A outer s H vs Q E hr h => ?_⟩
  obtain ⟨s0, dx, v, p, rfl, hi, hv, S, hsz, q⟩ := h
  obtain ⟨a, xs, rfl, ha, ts⟩ := hv.inv
  refine ⟨_, (pss_cons (ps_fld (pv 0) pe_int rfl) (pss_cons (ps_fld (pv 0) (pe_lstK pa_nil) rfl) (pss_cons (ps_fld (pv 0) pe_dnewK rfl) (pss_cons (ps_for PassesOwn.never rfl (pi_tup (pv 1)) (pg_name (i := 2) sc_Demands___init__.nd rfl (by first | exact Or.inl rfl | exact Or.inr rfl)) (pss_one (ps_dput (hu_of hr) (pe_fld (pv 0) rfl) (pe_ix (ix_seqK (K := K) rfl) (pv 2) pe_int (fun _ _ => rfl)) (pe_tupK (pa_cons (pe_lc (own := [("param", 3)]) (g := (gName 3)) (tt := tYes) rfl sc_Demands___init__.nd (pi_tup (pe_ix (ix_seqK (K := K) rfl) (pv 2) pe_int (fun _ _ => rfl))) (blkOk_by (own := [("param", 3)]) (N := ["self", "program", "one", "param", "params", "own"]) (sc := defScope s_Demands___init__) (by decide +kernel)) (fun _ _ _ _ _ => (pg_name (i := 3) sc_Demands___init__.nd rfl (by first | exact Or.inl rfl | exact Or.inr rfl))) (fun _ _ _ _ _ => pts_nil) (fun _ _ _ _ _ => (pe_calM0 C_Demands_new T.cls (pv 0) hr))) (pa_cons (pe_calM0 C_Demands_new T.cls (pv 0) hr) pa_nil))) rfl))) (pss_one (ps_for PassesOwn.never rfl (pi_tup (pv 1)) (pg_name (i := 2) sc_Demands___init__.nd rfl (by first | exact Or.inl rfl | exact Or.inr rfl)) (pss_cons (ps_asg (pe_dget (hu_of hr) (pe_fld (pv 0) rfl) (pe_ix (ix_seqK (K := K) rfl) (pv 2) pe_int (fun _ _ => rfl)) (fun _ _ => rfl)) (pg_tup rfl (pgs_cons (pg_name (i := 4) sc_Demands___init__.nd rfl (by first | exact Or.inl rfl | exact Or.inr rfl)) (pgs_cons (pg_name (i := 5) sc_Demands___init__.nd rfl (by first | exact Or.inl rfl | exact Or.inr rfl)) pgs_nil)))) (pss_one (ps_expr (pe_calM C_Demands_demand T.cls (pv 0) hr (pa_cons (pe_ix (ix_seqK (K := K) rfl) (pv 2) pe_int (fun _ _ => rfl)) (pa_cons (pv 5) (pa_cons (pe_calM C_Demands_kind_of T.cls (pv 0) hr (pa_cons (pe_ix (ix_seqK (K := K) rfl) (pv 2) pe_int (fun _ _ => rfl)) (pa_cons (pe_dictZip true false rfl (by rfl) T.b_dict (by rfl) T.b_zip (pa_cons (pe_ix (ix_seqK (K := K) rfl) (pv 2) pe_int (fun _ _ => rfl)) (pa_cons (pv 4) pa_nil))) pa_nil))) pa_nil))))))))))))), ?_⟩
  have hlen : xs.length = p.length := by rw [ts.1, List.length_map]
  have hfew := S.few
  walk_at "rr"
  refine ⟨s0, _, dx, _, rfl, hi, T.cls, T.no_count, by decide, ?_⟩
  have kw1 : Kp [s0] H (upd H s0 (.ins (dmC K) dx (putF "count" (.int 0) []))) := Kp.wr (by simp) hi rfl
  have e1 : (upd H s0 (.ins (dmC K) dx (putF "count" (.int 0) []))) s0 = some (.ins (dmC K) dx [("count", .int 0)]) := upd_same
  generalize upd H s0 (.ins (dmC K) dx (putF "count" (.int 0) [])) = H1 at kw1 e1
  walk_at "rr"
  refine ⟨by simp, fun l H2 k2 n2 e2 => ?_⟩
  have hs2 := k2.at e1 ni0
  have sl : s0 ≠ l := ne_kind hs2 e2 (by simp)
  walk_at "rr"
  refine ⟨s0, _, dx, _, rfl, hs2, T.cls, T.no_rows, by simp, ?_⟩
  have kw3 : Kp [s0] H2 (upd H2 s0 (.ins (dmC K) dx (putF "rows" (.ref l) [("count", .int 0)]))) := Kp.wr (by simp) hs2 rfl
  have e3 : (upd H2 s0 (.ins (dmC K) dx (putF "rows" (.ref l) [("count", .int 0)]))) s0 = some (.ins (dmC K) dx [("count", .int 0), ("rows", .ref l)]) := upd_same
  generalize upd H2 s0 (.ins (dmC K) dx (putF "rows" (.ref l) [("count", .int 0)])) = H3 at kw3 e3
  walk_at "rr"
  intro d H4 k4 n4 e4
  have hs4 := k4.at e3 ni0
  walk_at "rr"
  refine ⟨s0, _, dx, _, rfl, hs4, T.cls, T.no_table, by simp, ?_⟩
  have kw5 : Kp [s0] H4 (upd H4 s0 (.ins (dmC K) dx (putF "table" (.ref d) [("count", .int 0), ("rows", .ref l)]))) := Kp.wr (by simp) hs4 rfl
  have e5 : (upd H4 s0 (.ins (dmC K) dx (putF "table" (.ref d) [("count", .int 0), ("rows", .ref l)]))) s0 = some (.ins (dmC K) dx (dmF ((0 : Nat) : Int) l d)) := upd_same
  generalize upd H4 s0 (.ins (dmC K) dx (putF "table" (.ref d) [("count", .int 0), ("rows", .ref l)])) = H5 at kw5 e5
  have sd : s0 ≠ d := ne_kind hs4 e4 (by simp)
  have hl5 : H5 l = some (.lst []) := kw5.at (k4.at (kw3.at e2 (by simp [Ne.symm sl])) ni0) (by simp [Ne.symm sl])
  have hd5 : H5 d = some (.dK []) := kw5.at e4 (by simp [Ne.symm sd])
  have ld : l ≠ d := ne_kind hl5 hd5 (by simp)
  have k15 : Kp [s0] H1 H5 := (k2.mono (by simp)).trans (kw3.trans ((k4.mono (by simp)).trans kw5))
  have k05 : Kp [s0] H H5 := kw1.trans k15
  have nl : H l = none := kw1.free n2
  have nd : H d = none := kw1.free ((k2.mono (M1 := [s0]) (by simp)).free (kw3.free n4))
  have D5 : DmAt K H5 s0 l d 0 [] (tbOf [] []) := ⟨⟨dx, e5⟩, ⟨[], hl5, TDs.nil⟩, ⟨[], hd5, fun x => by simp [tbOf, valV]⟩⟩
  have ha5 := k05.atT ha
  have ts5 := ts.mono k05
  walk_at "rr"
  refine ⟨⟨_, SqT.of ha5⟩, ?_⟩
  refine forW (walk_tup (xs := xs)) (fun i σ H' => ∃ o2, σ = [some (.ref s0), some (.ref a), o2, none, none, none] ∧ Kp [s0, l, d] H5 H' ∧ DmAt K H' s0 l d (heads (p.take i) 0).2 [] (tbOf (p.take i) (heads (p.take i) 0).1) ∧ ∃ kvs, H' d = some (.dK kvs) ∧ kvs.length ≤ i) ⟨none, rfl, Kp.refl _ _, by simpa [heads] using D5, [], hd5, Nat.le_refl _⟩ ?_ ?_ ?_
  · rintro i σ H' _ ⟨_, _, k, _⟩
    exact SqT.of (k.atT ha5)
  · rintro i y σ H6 H7 hi2 ⟨o2, rfl, k, D6, kvs, hd6, hkl⟩ ⟨rfl, hy⟩
    obtain ⟨dd, hdd, hid, htd⟩ := ts5.map_get hy
    have hv6 := htd.mono k
    walk_at "rr"
    refine r_ix hv6 3 rfl fun v3 h3 => ?_
    obtain ⟨a3, xs3, rfl, ha3, ts3⟩ := h3.inv
    have hx3 : xs3.length = dd.params.length := by rw [ts3.1, List.length_map]
    have hp4 := (S.ok dd hdd).few
    walk_at "rr"
    refine ⟨⟨_, SqT.of ha3⟩, ?_⟩
    refine lcW (walk_tup (xs := xs3)) (by omega) [s0, l] (fun j acc H' => DmR K H' s0 l d ((heads (p.take i) 0).2 + j) [] ∧ TDs H' acc (((List.range j).map fun j => an ((heads (p.take i) 0).2 + j)).map kd)) (fun H8 k8 => SqT.of (k8.atT ha3)) (fun D0 H8 hD k8 => ⟨(D6.mono0 k8).r, TDs.nil⟩) ?_ ?_
    · rintro j z D0 acc H8 H9 hj hD hl k8 hdd8 ⟨r8, ta8⟩ ⟨rfl, hz⟩
      obtain ⟨n1, n2, n3⟩ := D6.new_ne hD
      have D8 := D6.re k8 r8
      walk_at "rr"
      refine ⟨rfl, ?_⟩
      walk_at "rr"
      refine r_yes rfl ?_
      refine r_self rfl D8 (by simp) ?_
      walk_at "rr"
      refine ⟨s0, l, d, _, _, _, rfl, D8, fun nv H10 k10 D10 tn => ?_⟩
      refine lc_fin hD (by omega) hl (k8.trans k10) (k10.at hdd8 n3) fun H11 k11 => ⟨D10.r.mono k11 n1 n2, ?_⟩
      rw [List.range_succ, List.map_append, List.map_append]
      exact ((ta8.mono k10).snoc tn).mono k11
    · rintro D0 acc H8 hD hl k8 hdd8 ⟨r8, ta8⟩
      rw [hx3] at r8 ta8
      obtain ⟨n1, n2, n3⟩ := D6.new_ne hD
      have D8 := D6.re k8 r8
      walk_at "rr"
      refine r_self rfl D8 (by simp) ?_
      walk_at "rr"
      refine ⟨s0, l, d, _, _, _, rfl, D8, fun nv H9 k9 D9 tn => ?_⟩
      refine ⟨by simp, fun p10 H10 k10 n10 e10 => ?_⟩
      have D10 := D9.mono0 k10
      have e0 := k10.at (k9.at hdd8 n3) ni0
      have k610 : Kp [s0, l] H7 H10 := k8.trans (k9.trans (k10.mono (by simp)))
      have dn : d ∉ [s0, l] := by simp [Ne.symm sd, Ne.symm ld]
      have hd10 := k610.at hd6 dn
      obtain ⟨dx10, hs10⟩ := D10.ins
      refine r_selfF rfl hs10 T.cls T.no_table rfl ?_
      walk_at "rr"
      refine r_ix_str (hv6.mono k610) 2 rfl ?_
      refine r_dput_s hd10 (by omega) fun H11 k11 e11 => ?_
      walk_at "rr"
      have nm : dd.name ∉ (p.take i).map Df.name := by
        rw [List.map_take]
        exact not_mem_take S.names (by rw [List.getElem?_map, hid]; rfl)
      refine ⟨_, rfl, k.trans ((k610.mono (by simp)).trans (k11.mono (by simp))), ?_, _, e11, Nat.le_trans (length_putK _ _ _) (by omega)⟩
      rw [take_snoc hid, heads_snoc]
      have r11 := D10.r.mono k11 sd ld
      refine ⟨r11.ins, r11.rows, TbAt.put hd10 D10.tab e10 e0 (Ne.symm n2) ((ta8.mono k9).mono k10) (tn.mono k10) k11 e11 (fun y => tbOf_snoc (heads_len _ _) dd _ nm y)⟩
  · rintro σ H6 ⟨o2, rfl, k6, D6, _⟩
    rw [hlen, List.take_length] at D6
    have ha6 := k6.atT ha5
    have ts6 := ts5.mono k6
    have k06 : Kp [s0, l, d] H H6 := (k05.mono (by simp)).trans k6
    walk_at "rr"
    refine ⟨⟨_, SqT.of ha6⟩, ?_⟩
    refine forW (walk_tup (xs := xs)) (fun i σ H' => ∃ o2 o4 o5, σ = [some (.ref s0), some (.ref a), o2, none, o4, o5] ∧ Kp [s0, l] H6 H' ∧ DmR K H' s0 l d (genDs (tbP p) (p.take i) ((hdP p).take i) (heads p 0).2).2 (genDs (tbP p) (p.take i) ((hdP p).take i) (heads p 0).2).1) ⟨o2, none, none, rfl, Kp.refl _ _, by simpa [genDs] using D6.r⟩ ?_ ?_ ?_
    · rintro i σ H' _ ⟨_, _, _, _, k, _⟩
      exact SqT.of (k.atT ha6)
    · rintro i y σ H7 H8 hi2 ⟨o2, o4, o5, rfl, k, r7⟩ ⟨rfl, hy⟩
      obtain ⟨dd, hdd, hid, htd⟩ := ts6.map_get hy
      have hv7 := htd.mono k
      have D7 := D6.re k r7
      have hih := heads_at hid 0
      have htb : tbP p dd.name = some (headOf (heads (p.take i) 0).2 dd) := tbOf_at S.names hid hih
      obtain ⟨dx7, hs7⟩ := D7.ins
      obtain ⟨kvt, ht1, ht2⟩ := id D7.tab
      have ht2 := ht2 dd.name
      rw [show tbOf p (heads p 0).1 dd.name = some (headOf (heads (p.take i) 0).2 dd) from htb] at ht2
      obtain ⟨p1, q1, vs1, v1, g1, g2, g3, g4, g5, g6⟩ := ht2
      have hok := S.ok dd hdd
      have hvk : vs1.length = dd.params.length := by rw [g5.1, List.length_map]; simp [headOf]
      walk_at "rr"
      refine r_selfF rfl hs7 T.cls T.no_table rfl ?_
      walk_at "rr"
      refine r_ix_str hv7 2 rfl ?_
      refine r_dget_s ht1 g1 ?_
      refine r_gTup rfl g2 rfl ?_
      walk_at "rr"
      refine r_self rfl D7 (by simp) ?_
      walk_at "rr"
      refine r_ix hv7 1 rfl fun plv hp => ?_
      walk_at "rr"
      refine r_self rfl D7 (by simp) ?_
      walk_at "rr"
      refine r_ix hv7 4 rfl fun bv hb => ?_
      walk_at "rr"
      refine r_ix hv7 3 rfl fun v3 h3 => ?_
      obtain ⟨a3, xs3, rfl, ha3, ts3⟩ := h3.inv
      have hx3 := ts3.strs_inv
      walk_at "rr"
      refine ⟨a3, q1, dd.params.map Sum.inr, vs1, rfl, sqBt (by rw [ha3, hx3, List.map_map]; rfl), sqBl g3, by rw [List.length_map]; exact hvk, fun nd H9 k9 n9 e9 => ?_⟩
      have hst := szP_take hid
      have hgl := genDs_len (tbP p) (p.take i) ((hdP p).take i) (heads p 0).2
      have NN : NrAt H9 nd (envOf dd.params (headOf (heads (p.take i) 0).2 dd).1) 4 := ⟨_, e9, Nat.le_trans (length_mergeK _ _) (by simp; have := hok.few; omega), nr_zip hvk (g5.mono k9) (fun x => rfl)⟩
      have R9 : Rdy K H9 s0 l d _ _ (tbP p) nd (envOf dd.params (headOf (heads (p.take i) 0).2 dd).1) 4 10 (arL p) dd.params := ⟨D7.mono0 k9, NN, fun x => tbOf_ar p 0 x, fun x => by
        rw [envOf, envOf_some _ _ _ _ (by simp [headOf])]
        simp, by omega⟩
      refine ⟨s0, l, d, _, _, _, bv, dd.body, nd, _, 4, arL p, dd.params, rfl, R9, hb.mono k9, hok.dep, hok.body, S.snd dd hdd, by omega, fun v10 H10 k10 r10 t10 => ?_⟩
      have D10 := R9.D.re k10 r10
      have hgn := gen_len (tbP p) 10 dd.body (envOf dd.params (headOf (heads (p.take i) 0).2 dd).1) (genDs (tbP p) (p.take i) ((hdP p).take i) (heads p 0).2).2
      have k710 : Kp [s0, l] H8 H10 := (k9.mono (by simp)).trans k10
      refine ⟨s0, l, d, _, _, _, plv, v1, v10, (dd.p, (headOf (heads (p.take i) 0).2 dd).2, _), rfl, D10, by rw [List.length_append]; omega, hp.mono k710, g6.mono k710, t10, fun H11 k11 D11 => ?_⟩
      walk_at "rr"
      refine ⟨_, _, _, rfl, k.trans (k710.trans k11), ?_⟩
      have hih2 : (hdP p)[i]? = some (headOf (heads (p.take i) 0).2 dd) := hih
      rw [take_snoc hid, take_snoc hih2, genDs_snoc _ _ _ _ _ _ (by
        have := heads_len p 0
        rw [List.length_take, List.length_take]
        unfold hdP
        rw [this])]
      have D11 := D11.r
      simp only [List.append_assoc] at D11 ⊢
      exact D11
    · rintro σ H7 ⟨o2, o4, o5, rfl, k7, r7⟩
      have el : (hdP p).length = p.length := heads_len p 0
      rw [hlen, List.take_length, ← el, List.take_length] at r7
      refine q l d H7 ((k06.trans (k7.mono (by simp))).drop fun b hb => ?_) (D6.re k7 r7)
      simp at hb
      rcases hb with e | e | e
      · exact .inl (by simp [e])
      · exact .inr (by rw [e]; exact nl)
      · exact .inr (by rw [e]; exact nd)
end
end Tp
set_option Elab.async false
set_option linter.all false
set_option maxRecDepth 100000
set_option maxHeartbeats 4000000
namespace Tp
open PySem PySem.Spec PyProof.Rows L2

/-! ### unification, plainly -/
def ap (f : Int → Kd) : Kd → Kd
  | .num => .num
  | .lst k => .lst (ap f k)
  | .any n => f n
theorem ap_any : ∀ k : Kd, ap Kd.any k = k
  | .num => rfl
  | .lst k => by simp [ap, ap_any k]
  | .any n => rfl
theorem ap_ap (f g : Int → Kd) : ∀ k : Kd, ap f (ap g k) = ap (fun n => ap f (g n)) k
  | .num => rfl
  | .lst k => by simp [ap, ap_ap f g k]
  | .any n => rfl
theorem ap_dp (f : Int → Kd) : ∀ k : Kd, k.dp ≤ (ap f k).dp
  | .num => by simp [ap, Kd.dp]
  | .lst k => by
    have := ap_dp f k
    simp [ap, Kd.dp]
    exact this
  | .any n => by simp [Kd.dp]
/-- a table; its solutions -/
abbrev Tb := Int → Option Kd
def Sol (t : Tb) (s : Int → Kd) : Prop := ∀ n k, t n = some k → s n = ap s k
def Tb.put (t : Tb) (f : Int) (k : Kd) : Tb := fun n => if n = f then some k else t n
/-- k read through to the end is r, in h steps -/
inductive Full (t : Tb) : Nat → Kd → Kd → Prop
  | num : Full t 0 .num .num
  | free {n : Int} (h : t n = none) : Full t 0 (.any n) (.any n)
  | see {n : Int} {k r : Kd} {i : Nat} (h : t n = some k) (f : Full t i k r) : Full t (i + 1) (.any n) r
  | lst {k r : Kd} {i : Nat} (f : Full t i k r) : Full t (i + 1) (.lst k) (.lst r)
theorem Full.uniq {t : Tb} {i j : Nat} {k r r' : Kd} (h : Full t i k r) : Full t j k r' → i = j ∧ r = r' := by
  induction h generalizing j r' with
  | num => intro q; cases q; exact ⟨rfl, rfl⟩
  | free e =>
    intro q
    cases q with
    | free _ => exact ⟨rfl, rfl⟩
    | see e' _ => rw [e] at e'; cases e'
  | see e _ ih =>
    intro q
    cases q with
    | free e' => rw [e] at e'; cases e'
    | see e' f' =>
      rw [e] at e'
      cases e'
      obtain ⟨a, b⟩ := ih f'
      exact ⟨by rw [a], b⟩
  | lst _ ih =>
    intro q
    cases q with
    | lst f' =>
      obtain ⟨a, b⟩ := ih f'
      exact ⟨by rw [a], by rw [b]⟩
/-- the end of a kind -/
def kend : Kd → Option Int
  | .num => none
  | .lst k => kend k
  | .any n => some n
theorem Full.sol {t : Tb} {i : Nat} {k r : Kd} (h : Full t i k r) {s : Int → Kd} (hs : Sol t s) : ap s k = ap s r := by
  induction h with
  | num => rfl
  | free _ => rfl
  | see e _ ih => rw [← ih]; exact hs _ _ e
  | lst _ ih => simp [ap, ih]
/-- tables from which every kind can be read -/
structure Ok (t : Tb) : Prop where
  full : ∀ k : Kd, ∃ i r, Full t i k r
  small : ∀ n k, t n = some k → k.dp ≤ 1
theorem Full.free_end {t : Tb} {i : Nat} {k r : Kd} (h : Full t i k r) : ∀ n, kend r = some n → t n = none := by
  induction h with
  | num => intro n e; simp [kend] at e
  | free e => intro n e'; simp [kend] at e'; rw [← e']; exact e
  | see _ _ ih => exact ih
  | lst _ ih => exact ih
/-- seen: no bound variable -/
def Seen (t : Tb) (k : Kd) : Prop := ∀ n, k = .any n → t n = none
/-- a variable is bound, to what does not lead back to it -/
theorem Full.put_off {t : Tb} {f : Int} {k0 : Kd} (hf : t f = none) {i : Nat} {k r : Kd} (h : Full t i k r) : kend r ≠ some f → Full (t.put f k0) i k r := by
  induction h with
  | num => intro _; exact .num
  | free e =>
    rename_i n
    intro hn
    refine .free ?_
    unfold Tb.put
    rw [if_neg (fun z => hn (by simp [kend, z]))]
    exact e
  | see e _ ih =>
    rename_i n _ _ _
    intro hn
    refine .see ?_ (ih hn)
    unfold Tb.put
    rw [if_neg (fun z => by rw [z, hf] at e; cases e)]
    exact e
  | lst _ ih => intro hn; exact .lst (ih hn)
def rep (f : Int) (k : Kd) : Kd → Kd := ap fun n => if n = f then k else .any n
theorem Full.put_on {t : Tb} {f : Int} {k0 r0 : Kd} {i0 : Nat} (hf : t f = none) (h0 : Full (t.put f k0) i0 k0 r0) {i : Nat} {k r : Kd} (h : Full t i k r) : ∃ j, Full (t.put f k0) j k (rep f r0 r) := by
  induction h with
  | num => exact ⟨0, .num⟩
  | free e =>
    rename_i n
    by_cases hn : n = f
    · refine ⟨i0 + 1, .see (k := k0) (by unfold Tb.put; rw [if_pos hn]) ?_⟩
      simp only [rep, ap, if_pos hn]
      exact h0
    · refine ⟨0, ?_⟩
      simp only [rep, ap, if_neg hn]
      refine .free ?_
      unfold Tb.put
      rw [if_neg hn]
      exact e
  | see e _ ih =>
    rename_i n _ _ _
    obtain ⟨j, ih⟩ := ih
    refine ⟨j + 1, .see ?_ ih⟩
    unfold Tb.put
    rw [if_neg (fun z => by rw [z, hf] at e; cases e)]
    exact e
  | lst _ ih =>
    obtain ⟨j, ih⟩ := ih
    exact ⟨j + 1, .lst ih⟩
theorem Ok.put {t : Tb} (o : Ok t) {f : Int} {k r : Kd} {i : Nat} (hf : t f = none) (hk : k.dp ≤ 1) (h : Full t i k r) (ne : kend r ≠ some f) : Ok (t.put f k) := by
  have h0 := h.put_off (k0 := k) hf ne
  refine ⟨fun k' => ?_, fun n k' e => ?_⟩
  · obtain ⟨j, r', h'⟩ := o.full k'
    obtain ⟨j', h'⟩ := Full.put_on hf h0 h'
    exact ⟨j', _, h'⟩
  · unfold Tb.put at e
    by_cases hn : n = f
    · rw [if_pos hn] at e
      cases e
      exact hk
    · rw [if_neg hn] at e
      exact o.small n k' e
theorem Sol.put {t : Tb} {f : Int} {k : Kd} (hf : t f = none) {s : Int → Kd} : Sol (t.put f k) s ↔ Sol t s ∧ s f = ap s k := by
  constructor
  · intro h
    refine ⟨fun n k' e => h n k' ?_, h f k (by unfold Tb.put; rw [if_pos rfl])⟩
    unfold Tb.put
    rw [if_neg (fun z => by rw [z, hf] at e; cases e)]
    exact e
  · rintro ⟨h1, h2⟩ n k' e
    unfold Tb.put at e
    by_cases hn : n = f
    · rw [if_pos hn] at e
      cases e
      rw [hn]
      exact h2
    · rw [if_neg hn] at e
      exact h1 n k' e
/-- a table from which all can be read has a solution -/
theorem Ok.sol {t : Tb} (o : Ok t) : ∃ s, Sol t s := by
  have h : ∀ n : Int, ∃ r, ∃ i, Full t i (.any n) r := fun n => by
    obtain ⟨i, r, h⟩ := o.full (.any n)
    exact ⟨r, i, h⟩
  refine ⟨fun n => (h n).choose, fun n k e => ?_⟩
  have all : ∀ (k : Kd) (i : Nat) (r : Kd), Full t i k r → ap (fun n => (h n).choose) k = r := by
    intro k
    induction k with
    | num =>
      intro i r f
      cases f
      rfl
    | lst k ih =>
      intro i r f
      cases f with
      | lst f => simp [ap, ih _ _ f]
    | any n =>
      intro i r f
      obtain ⟨j, hj⟩ := (h n).choose_spec
      exact (hj.uniq f).2
  obtain ⟨i, hi⟩ := (h n).choose_spec
  obtain ⟨j, r, f⟩ := o.full k
  rw [all k j r f]
  exact (hi.uniq (.see e f)).2
/-- a kind is no list of itself -/
theorem no_self {s : Int → Kd} {f : Int} : ∀ {k : Kd}, kend k = some f → k ≠ .any f → (s f).dp < (ap s k).dp
  | .num, h, _ => by simp [kend] at h
  | .any n, h, ne => by
    simp [kend] at h
    exact absurd (by rw [h]) ne
  | .lst k, h, _ => by
    by_cases e : k = .any f
    · subst e
      simp [ap, Kd.dp]
    · have := no_self (s := s) (k := k) h e
      simp [ap, Kd.dp]
      omega
/-- rows: of these places, that a substitution makes true -/
def Holds (rs : List Row) (s : Int → Kd) : Prop := ∀ r ∈ rs, ap s r.2.1 = ap s r.2.2
def Sat (rs : List Row) : Prop := ∃ s, Holds rs s
theorem Holds.sub {rs ts : List Row} {s : Int → Kd} (h : Holds rs s) (hs : ∀ r ∈ ts, r ∈ rs) : Holds ts s := fun r hr => h r (hs r hr)
theorem Sat.sub {rs ts : List Row} (h : Sat rs) (hs : ∀ r ∈ ts, r ∈ rs) : Sat ts := by
  obtain ⟨s, h⟩ := h
  exact ⟨s, h.sub hs⟩
theorem Holds.snoc {rs : List Row} {r : Row} {s : Int → Kd} : Holds (rs ++ [r]) s ↔ Holds rs s ∧ ap s r.2.1 = ap s r.2.2 := by
  unfold Holds
  simp only [List.mem_append, List.mem_singleton]
  constructor
  · exact fun h => ⟨fun q hq => h q (.inl hq), h r (.inr rfl)⟩
  · rintro ⟨h1, h2⟩ q (hq | rfl)
    · exact h1 q hq
    · exact h2
theorem Full.vars {t : Tb} (ht : ∀ n k, t n = some k → k.dp ≤ 1) {i : Nat} {k r : Kd} (h : Full t i k r) : ∃ vs : List Int, vs.Nodup ∧ (∀ v ∈ vs, (∃ k, t v = some k) ∧ ∃ j r', j ≤ i ∧ Full t j (.any v) r') ∧ r.dp ≤ k.dp + vs.length := by
  induction h with
  | num => exact ⟨[], by simp, by simp, by simp⟩
  | free e => exact ⟨[], by simp, by simp, by simp⟩
  | see e f ih =>
    rename_i n k r i
    obtain ⟨vs, h1, h2, h3⟩ := ih
    refine ⟨n :: vs, List.nodup_cons.mpr ⟨fun hn => ?_, h1⟩, fun v hv => ?_, ?_⟩
    · obtain ⟨_, j, r', hj, f'⟩ := h2 n hn
      have := (f'.uniq (.see e f)).1
      omega
    · rcases List.mem_cons.mp hv with z | z
      · subst z
        exact ⟨⟨k, e⟩, i + 1, r, Nat.le_refl _, .see e f⟩
      · obtain ⟨a, j, r', hj, f'⟩ := h2 v z
        exact ⟨a, j, r', by omega, f'⟩
    · have := ht n k e
      simp [Kd.dp]
      omega
  | lst f ih =>
    obtain ⟨vs, h1, h2, h3⟩ := ih
    refine ⟨vs, h1, fun v hv => ?_, ?_⟩
    · obtain ⟨a, j, r', hj, f'⟩ := h2 v hv
      exact ⟨a, j, r', by omega, f'⟩
    · simp [Kd.dp]
      omega
mutual
def pls : Tree → List Pl
  | .num p _ => [p]
  | .nil p => [p]
  | .use p _ as => p :: plss as
  | .op p _ l r => p :: (pls l ++ pls r)
  | .ite p c y n => p :: (pls c ++ (pls y ++ pls n))
  | .lt p _ a b => p :: (pls a ++ pls b)
  | .cs p w e _ _ b => p :: (pls w ++ (pls e ++ pls b))
def plss : List Tree → List Pl
  | [] => []
  | t :: ts => pls t ++ plss ts
end
mutual
theorem pls_len : ∀ t : Tree, (pls t).length = sz t
  | .num _ _ => by simp [pls, sz]
  | .nil _ => by simp [pls, sz]
  | .use _ _ as => by simp [pls, sz, plss_len as]; omega
  | .op _ _ l r => by simp [pls, sz, pls_len l, pls_len r]; omega
  | .ite _ c y n => by simp [pls, sz, pls_len c, pls_len y, pls_len n]; omega
  | .lt _ _ a b => by simp [pls, sz, pls_len a, pls_len b]; omega
  | .cs _ w e _ _ b => by simp [pls, sz, pls_len w, pls_len e, pls_len b]; omega
theorem plss_len : ∀ ts : List Tree, (plss ts).length = szs ts
  | [] => by simp [plss, szs]
  | t :: ts => by simp [plss, szs, pls_len t, plss_len ts]
end
theorem plss_mem : ∀ {ts : List Tree} {q : Pl}, q ∈ plss ts ↔ ∃ t ∈ ts, q ∈ pls t
  | [], q => by simp [plss]
  | t :: ts, q => by simp [plss, plss_mem (ts := ts)]
theorem pls_mem (t : Tree) (q : Pl) : q ∈ pls t ↔ q = t.place ∨ ∃ s ∈ t.subs, q ∈ pls s := by
  cases t <;> simp [pls, Tree.place, Tree.subs, plss_mem]
theorem pls_ok {n : Nat} {t : Tree} (d : Dep n t) : AllT okN t → ∀ q ∈ pls t, okPl q := by
  induction d with
  | mk h ih =>
    intro a q hq
    rcases (pls_mem _ q).mp hq with e | ⟨s, hs, hq⟩
    · rw [e]
      exact a.here.pl
    · exact ih s hs (a.sub hs) q hq
def flatE (e : Env') : Prop := ∀ x k, e x = some k → k.dp ≤ 1
def flatT (tb : Tab') : Prop := ∀ x ks k, tb x = some (ks, k) → k.dp ≤ 1 ∧ ∀ j ∈ ks, j.dp ≤ 1
theorem flatE.put {e : Env'} (h : flatE e) (x : Str) (n : Nat) : flatE (e.put x (an n)) := fun y k hy => by
  unfold Env'.put at hy
  split at hy
  · cases hy
    simp [Kd.dp]
  · exact h y k hy
def goodR (L : List Pl) (r : Row) : Prop := r.1 ∈ L ∧ r.2.1.dp ≤ 1 ∧ r.2.2.dp ≤ 1
theorem goodR.mono {L M : List Pl} {r : Row} (h : goodR L r) (s : ∀ q ∈ L, q ∈ M) : goodR M r := ⟨s _ h.1, h.2⟩
theorem genArgs_good {f : Tree → Nat → List Row × Nat} {p : Pl} (h : ∀ t c, ∀ r ∈ (f t c).1, goodR (pls t) r) : ∀ (ks : List Kd) (ts : List Tree) (c : Nat), (∀ j ∈ ks, j.dp ≤ 1) → ∀ r ∈ (genArgs f p ks ts c).1, goodR (p :: plss ts) r
  | [], _, _, _, r, hr => by simp [genArgs] at hr
  | _ :: _, [], _, _, r, hr => by simp [genArgs] at hr
  | k :: ks, t :: ts, c, hk, r, hr => by
    simp only [genArgs, List.mem_append, List.mem_cons] at hr
    rcases hr with hr | rfl | hr
    · exact (h t c r hr).mono fun q hq => by simp [plss, hq]
    · exact ⟨by simp, hk k (by simp), by simp [Kd.dp]⟩
    · refine (genArgs_good h ks ts _ (fun j hj => hk j (by simp [hj])) r hr).mono fun q hq => ?_
      simp [plss] at hq ⊢
      rcases hq with hq | hq <;> simp [hq]
theorem gen_good {tb : Tab'} (hT : flatT tb) : ∀ (n : Nat) (t : Tree) (near : Env') (c : Nat), flatE near → ∀ r ∈ (gen tb n t near c).1, goodR (pls t) r
  | 0, t, near, c, _, r, hr => by simp [gen] at hr
  | n + 1, t, near, c, hE, r, hr => by
    have ih := fun t near c h r hr => gen_good hT n t near c h r hr
    cases t with
    | num p i =>
      simp [gen] at hr
      subst hr
      exact ⟨by simp [pls], by simp [Kd.dp], by simp [Kd.dp]⟩
    | nil p =>
      simp [gen] at hr
      subst hr
      exact ⟨by simp [pls], by simp [Kd.dp], by simp [Kd.dp]⟩
    | use p x as =>
      simp only [gen] at hr
      split at hr
      · rename_i k hk
        simp at hr
        subst hr
        exact ⟨by simp [pls], by simp [Kd.dp], hE x k hk⟩
      · split at hr
        · rename_i ks k hk
          obtain ⟨h1, h2⟩ := hT x ks k hk
          rcases List.mem_append.mp hr with hr | hr
          · exact genArgs_good (fun t c r hr => ih t near c hE r hr) ks as (c + 1) h2 r hr
          · simp at hr
            subst hr
            exact ⟨by simp [pls], by simp [Kd.dp], h1⟩
        · simp at hr
    | op p s a b =>
      simp only [gen, List.mem_append] at hr
      rcases hr with hr | hr | hr
      · exact (ih a near _ hE r hr).mono fun q hq => by simp [pls, hq]
      · exact (ih b near _ hE r hr).mono fun q hq => by simp [pls, hq]
      · unfold genOp at hr
        split at hr
        · simp at hr
          rcases hr with rfl | rfl <;> exact ⟨by simp [pls], by simp [Kd.dp], by simp [Kd.dp]⟩
        · split at hr
          · simp at hr
            subst hr
            exact ⟨by simp [pls], by simp [Kd.dp], by simp [Kd.dp]⟩
          · simp at hr
            rcases hr with rfl | rfl | rfl <;> exact ⟨by simp [pls], by simp [Kd.dp], by simp [Kd.dp]⟩
    | ite p x y z =>
      simp only [gen, List.mem_append, List.mem_cons, List.not_mem_nil, or_false] at hr
      rcases hr with hr | hr | hr | rfl | rfl | rfl
      · exact (ih x near _ hE r hr).mono fun q hq => by simp [pls, hq]
      · exact (ih y near _ hE r hr).mono fun q hq => by simp [pls, hq]
      · exact (ih z near _ hE r hr).mono fun q hq => by simp [pls, hq]
      all_goals exact ⟨by simp [pls], by simp [Kd.dp], by simp [Kd.dp]⟩
    | lt p x a b =>
      simp only [gen, List.mem_append, List.mem_cons, List.not_mem_nil, or_false] at hr
      rcases hr with hr | rfl | hr | rfl
      · exact (ih a near _ hE r hr).mono fun q hq => by simp [pls, hq]
      · exact ⟨by simp [pls], by simp [Kd.dp], by simp [Kd.dp]⟩
      · exact (ih b _ _ (hE.put x _) r hr).mono fun q hq => by simp [pls, hq]
      · exact ⟨by simp [pls], by simp [Kd.dp], by simp [Kd.dp]⟩
    | cs p w e h t b =>
      simp only [gen, List.mem_append, List.mem_cons, List.not_mem_nil, or_false] at hr
      rcases hr with hr | rfl | rfl | hr | rfl | hr | rfl
      · exact (ih w near _ hE r hr).mono fun q hq => by simp [pls, hq]
      · exact ⟨by simp [pls], by simp [Kd.dp], by simp [Kd.dp]⟩
      · exact ⟨by simp [pls], by simp [Kd.dp], by simp [Kd.dp]⟩
      · exact (ih e near _ hE r hr).mono fun q hq => by simp [pls, hq]
      · exact ⟨by simp [pls], by simp [Kd.dp], by simp [Kd.dp]⟩
      · exact (ih b _ _ ((hE.put h _).put t _) r hr).mono fun q hq => by simp [pls, hq]
      · exact ⟨by simp [pls], by simp [Kd.dp], by simp [Kd.dp]⟩
def plsP (p : List Df) : List Pl := p.flatMap fun d => d.p :: pls d.body
theorem plsP_len : ∀ p : List Df, (plsP p).length = szP p
  | [] => by simp [plsP, szP]
  | d :: p => by
    have := plsP_len p
    simp only [plsP, szP, List.flatMap_cons, List.length_append, List.length_cons, List.map_cons, List.sum_cons, pls_len] at this ⊢
    omega
theorem flat_env (ps : List Str) (ks : List Kd) (h : ∀ j ∈ ks, j.dp ≤ 1) : flatE (envOf ps ks) := by
  have : ∀ (ps : List Str) (ks : List Kd) (e : Env'), (∀ j ∈ ks, j.dp ≤ 1) → flatE e → flatE ((ps.zip ks).foldl (fun e q => e.put q.1 q.2) e) := by
    intro ps
    induction ps with
    | nil => intro ks e _ h; simpa using h
    | cons p ps ih =>
      intro ks e hk he
      cases ks with
      | nil => simpa using he
      | cons k ks =>
        refine ih ks _ (fun j hj => hk j (by simp [hj])) fun y j hy => ?_
        have hy : (if y = p then some k else e y) = some j := hy
        split at hy
        · cases hy
          exact hk k (by simp)
        · exact he y j hy
  exact this ps ks _ h fun x k e => by cases e
theorem heads_flat : ∀ (ds : List Df) (c : Nat), ∀ h ∈ (heads ds c).1, h.2.dp ≤ 1 ∧ ∀ j ∈ h.1, j.dp ≤ 1
  | [], c, h, hh => by simp [heads] at hh
  | d :: ds, c, h, hh => by
    simp only [heads, List.mem_cons] at hh
    rcases hh with rfl | hh
    · refine ⟨by simp [headOf, Kd.dp], fun j hj => ?_⟩
      simp [headOf] at hj
      obtain ⟨a, _, rfl⟩ := hj
      simp [Kd.dp]
    · exact heads_flat ds _ h hh
theorem tbP_flat (p : List Df) : flatT (tbP p) := fun x ks k h => by
  unfold tbP tbOf at h
  obtain ⟨q, hq, e⟩ := Option.map_eq_some_iff.mp h
  have := heads_flat p 0 q.2 (List.of_mem_zip (List.mem_of_find?_eq_some hq)).2
  rw [e] at this
  exact this
theorem genDs_good {tb : Tab'} (hT : flatT tb) : ∀ (ds : List Df) (hs : List (List Kd × Kd)) (c : Nat), (∀ h ∈ hs, h.2.dp ≤ 1 ∧ ∀ j ∈ h.1, j.dp ≤ 1) → ∀ r ∈ (genDs tb ds hs c).1, goodR (plsP ds) r
  | [], _, _, _, r, hr => by simp [genDs] at hr
  | _ :: _, [], _, _, r, hr => by simp [genDs] at hr
  | d :: ds, h :: hs, c, hh, r, hr => by
    simp only [genDs, List.mem_append, List.mem_cons] at hr
    have h0 := hh h (by simp)
    rcases hr with hr | rfl | hr
    · exact (gen_good hT 10 d.body _ _ (flat_env _ _ h0.2) r hr).mono fun q hq => by simp [plsP, hq]
    · exact ⟨by simp [plsP], h0.1, by simp [Kd.dp]⟩
    · refine (genDs_good hT ds hs _ (fun g hg => hh g (by simp [hg])) r hr).mono fun q hq => ?_
      simp only [plsP, List.flatMap_cons, List.mem_append] at hq ⊢
      exact .inr hq
theorem rsP_good (p : List Df) : ∀ r ∈ rsP p, goodR (plsP p) r := genDs_good (tbP_flat p) p (hdP p) _ (heads_flat p 0)
end Tp
set_option Elab.async false
set_option linter.all false
set_option maxRecDepth 100000
set_option maxHeartbeats 4000000
namespace Tp
open PySem PySem.Spec PyProof.Rows L2
/-! ### data in a tuple of data -/
section
variable {X : Cx} {k : Nat} {K : PySem.W.Frag}
def rInT (K : PySem.W.Frag) (neg : Bool) : R2 := fun x y H Q => ∃ d ds, Dp K H x d ∧ Dp K H y (.tuple ds) ∧ d.canLay0 = true ∧ (PyData.canLayAll0 ds) = true ∧ d.depth ≤ 100 ∧ Q (.bl (if neg then !(ds.any fun z => PyData.eqv z d) else ds.any fun z => PyData.eqv z d)) H
theorem op_inT (hr : Room k X.A) (h : X.K = K) : OpR X (compareOp .In) (rInT K false) := by
  subst h
  intro pins s σ H x y v u Q I rx ry h
  obtain ⟨d, ds, hd, he, sd, se, hm, q⟩ := h
  obtain ⟨as, r1⟩ := Dp.reads I d x v hd rx
  obtain ⟨bs, r2⟩ := Dp.reads I (.tuple ds) y u he ry
  exact SeqAt.in_tuple_reads r2 r1 se sd (by have := hr.un; omega) ⟨.bl _, H, I, rfl, q⟩
theorem op_notInT (hr : Room k X.A) (h : X.K = K) : OpR X (compareOp .NotIn) (rInT K true) := by
  subst h
  intro pins s σ H x y v u Q I rx ry h
  obtain ⟨d, ds, hd, he, sd, se, hm, q⟩ := h
  obtain ⟨as, r1⟩ := Dp.reads I d x v hd rx
  obtain ⟨bs, r2⟩ := Dp.reads I (.tuple ds) y u he ry
  exact SeqAt.notIn_tuple_reads r2 r1 se sd (by have := hr.un; omega) ⟨.bl _, H, I, rfl, q⟩
end
section
variable {K : PySem.W.Frag} {H : Hp} {Q : VK} {x y : V} {d : PyData} {ds : List PyData}
theorem r_inT (h1 : TD H x d) (h2 : TD H y (.tuple ds)) (l1 : d.canLay0 = true) (l2 : PyData.canLayAll0 ds = true) (m : d.depth ≤ 100) (q : Q (.bl (ds.any fun z => PyData.eqv z d)) H) : rInT K false x y H Q := ⟨d, ds, h1.dp, h2.dp, l1, l2, m, q⟩
end
/-! ### while -/
def WhN (Pv : Nat → L2.St → Hp → Prop) (m : Nat) (tb : TS) (D : Ends) (σ : L2.St) (H : Hp) : Prop := ∃ N : L2.St → Hp → Prop, (∀ σ' H', N σ' H' → ∃ m', m' < m ∧ Pv m' σ' H') ∧ tb { D with nx := N, ct := N, bk := D.nx } σ H
theorem whileM {c : TT} {tb : TS} {D : Ends} {σ : L2.St} {H : Hp} (Pv : Nat → L2.St → Hp → Prop) (h0 : ∃ m, Pv m σ H)
    (hs : ∀ m σ H, Pv m σ H → c σ H fun b H1 => if b = true then WhN Pv m tb D σ H1 else D.nx σ H1) : tWhile c tb D σ H := ⟨Pv, h0, hs⟩
theorem whN {Pv : Nat → L2.St → Hp → Prop} {m : Nat} {tb : TS} {D : Ends} {σ : L2.St} {H : Hp} (h : tb ⟨fun σ' H' => ∃ m', m' < m ∧ Pv m' σ' H', D.rt, D.nx, fun σ' H' => ∃ m', m' < m ∧ Pv m' σ' H'⟩ σ H) : WhN Pv m tb D σ H := ⟨_, fun _ _ h => h, h⟩
/-! ### kinds read -/
def k0 : Kd → Str
  | .num => "n"
  | .lst _ => "list"
  | .any _ => "any"
section
variable {K : PySem.W.Frag} {H : Hp} {Q : VK} {v : V} {k : Kd}
theorem r_k0 (h : TD H v (kd k)) (q : Q (.str (k0 k)) H) : rIx K v (.int 0) H Q := by
  cases k with
  | num =>
    rw [h.inv_str]
    exact .inr (.inr ⟨_, 0, ("n" : Str).cps[0]!, rfl, rfl, by decide +kernel, by decide +kernel, q⟩)
  | lst k => exact r_ix_str (ds := [.str "list", kd k]) h 0 rfl q
  | any n => exact r_ix_str (ds := [.str "any", .int n]) h 0 rfl q
theorem r_k1_any {n : Int} (h : TD H v (kd (.any n))) (q : Q (.int n) H) : rIx K v (.int 1) H Q := r_ix_int (ds := [.str "any", .int n]) h 1 rfl q
theorem r_k1_lst {k : Kd} (h : TD H v (kd (.lst k))) (q : ∀ y, TD H y (kd k) → Q y H) : rIx K v (.int 1) H Q := r_ix (ds := [.str "list", kd k]) h 1 rfl q
theorem r_eq_kd {x y : V} {j k : Kd} (h1 : TD H x (kd j)) (h2 : TD H y (kd k)) (m : j.dp ≤ 100) (q : Q (.bl (decide (j = k))) H) : rEqX K x y H Q :=
  r_eq_td h1 h2 (kd_lay j) (kd_lay k) (by have := kd_dep j; omega) (by rw [kd_eqv]; exact q)
theorem r_ne_kd {x y : V} {j k : Kd} (h1 : TD H x (kd j)) (h2 : TD H y (kd k)) (m : j.dp ≤ 100) (q : Q (.bl (!decide (j = k))) H) : rNeX K x y H Q :=
  r_ne_td h1 h2 (kd_lay j) (kd_lay k) (by have := kd_dep j; omega) (by rw [kd_eqv]; exact q)
end
theorem k0_num_a : decide (k0 .num = "any") = false := by decide +kernel
theorem k0_num_l : decide (k0 .num = "list") = false := by decide +kernel
theorem k0_lst_a (k : Kd) : decide (k0 (.lst k) = "any") = false := decide_eq_false (show ¬ (("list" : Str) = "any") by decide +kernel)
theorem k0_lst_l (k : Kd) : decide (k0 (.lst k) = "list") = true := decide_eq_true rfl
theorem k0_any_a (n : Int) : decide (k0 (.any n) = "any") = true := decide_eq_true rfl
theorem k0_any_l (n : Int) : decide (k0 (.any n) = "list") = false := decide_eq_false (show ¬ (("any" : Str) = "list") by decide +kernel)
theorem r_isN_ref {a : Addr} {H : Hp} {Q : VK} (q : Q (.bl false) H) : rIsN (.ref a) .non H Q := ⟨rfl, by
  have e : decide (V.ref a = V.non) = false := decide_eq_false (by simp)
  rw [e]
  exact q⟩
theorem r_isN_non {H : Hp} {Q : VK} (q : Q (.bl true) H) : rIsN .non .non H Q := ⟨rfl, q⟩
theorem r_notN_ref {a : Addr} {H : Hp} {Q : VK} (q : Q (.bl true) H) : rNotN (.ref a) .non H Q := ⟨rfl, by
  have e : decide (V.ref a = V.non) = false := decide_eq_false (by simp)
  rw [e]
  exact q⟩
theorem r_notN_non {H : Hp} {Q : VK} (q : Q (.bl false) H) : rNotN .non .non H Q := ⟨rfl, q⟩
theorem r_dsetd {td ty tx : TE} {σ : L2.St} {H : Hp} {Q : VK} (h : td σ H fun x H1 => ∃ a, x = .ref a ∧ IsD H1 a ∧ ty σ H1 fun y H2 => tx σ H2 fun z H3 => ∃ (kvs : List (Key × V)) (k : Key), H3 a = some (.dK kvs) ∧ y = kV k ∧ kvs.length < sizeLine ∧
  (∀ v, valV kvs k = some v → Q v H3) ∧ (valV kvs k = none → Q z (upd H3 a (.dK (putK kvs k z))))) : tDSetd td ty tx σ H Q := h
end Tp
set_option Elab.async false
set_option linter.all false
set_option maxRecDepth 100000
set_option maxHeartbeats 4000000
set_option pp.maxSteps 500
set_option pp.deepTerms false
namespace Tp
open PySem PySem.Spec PyProof.Rows L2
local macro_rules | `(tactic| walk_at "r") => `(tactic| with_reducible first
  | refine r_seq ?_ | refine r_set ?_ | refine r_ret ?_ | refine r_ifS ?_ | refine r_drop ?_ | refine r_next ?_ | refine r_nx ?_ | refine r_rt ?_
  | refine r_var rfl ?_ | refine r_c ?_ | refine r_op ?_ | refine r_test ?_ | refine r_B ?_ | refine r_exbl ?_ | refine r_exstr ?_ | refine r_exref ?_ | refine r_exint ?_ | refine r_ex2 ?_ | refine r_not ?_ | refine r_and ?_ | refine r_or ?_
  | refine r_andV ?_ | refine r_orV ?_ | refine r_notV ?_ | refine r_ifE ?_ | refine r_chain ?_ | refine r_asg ?_
  | refine r_cb ?_ | refine r_cons ?_ | refine r_nil ?_ | refine r_call ?_ | refine r_par ?_ | refine r_tup ?_ | refine r_lst ?_
  | refine r_lc ?_ | refine r_dget ?_ | refine r_din ?_ | refine r_dnotin ?_ | refine r_dput ?_ | refine r_sl ?_ | refine r_part ?_ | refine r_nopart ?_ | refine r_for ?_ | refine r_iList ?_ | refine r_iTup ?_ | refine r_iStr ?_ | refine r_iKeys ?_ | refine r_rng1 ?_ | refine r_dsetd ?_ | refine r_dnew ?_ | refine r_bm ?_ | refine r_fldaug ?_ | refine r_fldset ?_ | refine r_dz ?_ | refine r_lz ?_ | refine r_gSub ?_ | refine r_dc ?_ | refine r_sc ?_ | refine r_iEnumB ?_ | refine r_iZipB ?_ | refine r_iRevA ?_ | refine r_yes1 ?_ | refine r_gName ?_ | refine r_gCons ?_ | refine r_gNil ?_
  | refine r_I0 ?_ | refine r_eq_str ?_ | refine r_eq_int ?_ | refine r_ne_str ?_ | refine r_ne_int ?_
  | refine r_isi_int_int ?_ | refine r_isi_int_bool ?_ | refine r_isi_str_str ?_ | refine r_isi_int_tup ?_ | refine r_isi_str_tup ?_)
local macro_rules | `(tactic| walk_at "rr") => `(tactic| repeat walk_at "r")
local macro_rules | `(tactic| walk_at "len") => `(tactic| (intro vs H Q E h; repeat (first | (obtain ⟨e, _⟩ := h; rw [e]; rfl) | (obtain ⟨_, h⟩ := h))))
local macro_rules | `(tactic| walk_at "ni") => `(tactic| first | exact ni0 | exact ni1 (by assumption) | exact ni2 (by assumption) (by assumption) | exact ni3 (by assumption) (by assumption) (by assumption))
local macro_rules | `(tactic| walk_at "sub") => `(tactic| first | (intro b hb; cases hb; done) | (intro b hb; exact hb) | (intro b hb; simp at hb ⊢; simp [hb]; done) | (intro b hb; simp at hb ⊢; omega))
local macro_rules | `(tactic| walk_at "kp") => `(tactic| first | assumption | exact Kp.refl _ _ | (refine Kp.step (by assumption) (by walk_at "sub") ?_; walk_at "kp"))
local macro_rules | `(tactic| walk_at "at") => `(tactic| first | assumption | (refine Kp.atT (by assumption) ?_; walk_at "at") | (refine Kp.at (by assumption) ?_ (by walk_at "ni"); walk_at "at"))
local macro_rules | `(tactic| walk_at "td") => `(tactic| first | assumption | exact TD.int _ | exact TD.str _ | exact TDs.nil | (refine TDs.cons ?_ ?_ <;> walk_at "td") | (refine TD.mk (by assumption) ?_; walk_at "td") | (refine TD.mono (by assumption) ?_; walk_at "td") | (refine TDs.mono (by assumption) ?_; walk_at "td"))
local macro_rules | `(tactic| walk_at "b") => `(tactic| first | rfl | decide +kernel | (simp <;> omega) | (simp [*] <;> omega))
local macro_rules | `(tactic| walk_at "if") => `(tactic| first | refine r_yes (by walk_at "b") ?_ | refine r_no (by walk_at "b") ?_)
local macro_rules | `(tactic| walk_at "go") => `(tactic| repeat (first | walk_at "r" | walk_at "if"))
local macro_rules | `(tactic| walk_at "pf") => `(tactic| repeat (fail_if_success (with_reducible refine r_for ?_); walk_at "r"))
local macro_rules | `(tactic| walk_at "pt") => `(tactic| repeat (fail_if_success (with_reducible refine r_ifS ?_); walk_at "r"))
local macro_rules | `(tactic| walk_at "wn") => `(tactic| refine r_no (decide_eq_false (by simp only [Tree.word]; decide +kernel)) ?_)
local macro_rules | `(tactic| walk_at "nx") => `(tactic| (walk_at "wn"; walk_at "rr"))
section
variable {P : Program} {w : World} {K : PySem.W.Frag} {mg : Str → Option Value} {base : Heap}
/-- the table of kinds at d -/
def KtAt (H : Hp) (d : Addr) (t : Tb) (n : Nat) : Prop := ∃ kvs : List (Key × V), H d = some (.dK kvs) ∧ kvs.length ≤ n ∧ ∀ i : Int, match t i with
  | none => valV kvs (.inl i) = none
  | some k => ∃ v, valV kvs (.inl i) = some v ∧ TD H v (kd k)
theorem KtAt.mono {M : List Addr} {H H' : Hp} {d : Addr} {t : Tb} {n : Nat} (k : Kp M H H') (hd : d ∉ M) (h : KtAt H d t n) : KtAt H' d t n := by
  obtain ⟨kvs, h1, h0, h2⟩ := h
  refine ⟨kvs, k.at h1 hd, h0, fun x => ?_⟩
  have h2 := h2 x
  split
  · rename_i e
    rw [e] at h2
    exact h2
  · rename_i kk e
    rw [e] at h2
    obtain ⟨v, g1, g2⟩ := h2
    exact ⟨v, g1, g2.mono k⟩
def sp_seen : Sp := fun vs H Q _ => ∃ (d : Addr) (v : V) (t : Tb) (n : Nat) (k r : Kd) (i : Nat), vs = [.ref d, v] ∧ KtAt H d t n ∧ TD H v (kd k) ∧ Full t i k r ∧ k.dp ≤ 1 ∧ (∀ n k, t n = some k → k.dp ≤ 1) ∧
  ∀ v' H' k' j, Kp [] H H' → TD H' v' (kd k') → Full t j k' r → j ≤ i → Seen t k' → k'.dp ≤ 1 → (∀ s, Sol t s → ap s k' = ap s k) → Q v' H'
theorem sc_seen : FnScope ["table", "kind"] ["table", "kind"] (defScope s_seen) := ⟨rfl, rfl, rfl, by decide +kernel, rfl, by decide +kernel, by decide +kernel⟩
theorem c_seen (T : Txt K mg) : Cal P w K mg base 1 "seen" ["table", "kind"] sp_seen := by
  obtain ⟨fd, F⟩ := T.F_seen
  refine mk_cal F T.g_seen (fun _ _ _ _ _ _ us hl => match us, hl with | [_, _], _ => rfl) (mk_ok F sc_seen (by walk_at "len") fun cdv A outer s H vs Q E hr h => ?_)
  obtain ⟨d, v, t, n, k, r, i, rfl, hd, hv, hf, hk, ht, q⟩ := h
  refine ⟨_, (pss_cons (ps_while PassesOwn.never (PW.pt (pw_and (pt_cmpR (op_eqXK (K := K) hr rfl) (pe_ix (ix_seqK (K := K) rfl) (pv 1) pe_int (fun _ _ => rfl)) pe_str (nomark _)) (pw_and1 (pt_cmp (pc_din (hu_of hr) (pe_ix (ix_seqK (K := K) rfl) (pv 1) pe_int (fun _ _ => rfl)) (pv 0)))))) (pss_one (ps_set (i := 1) sc_seen.nd rfl (by first | exact Or.inl rfl | exact Or.inr rfl) (pe_dget (hu_of hr) (pv 0) (pe_ix (ix_seqK (K := K) rfl) (pv 1) pe_int (fun _ _ => rfl)) (fun _ _ => rfl))))) (pss_one (ps_ret (pv 1)))), ?_⟩
  walk_at "rr"
  refine whileM (fun m σ H' => ∃ v' k', σ = [some (.ref d), some v'] ∧ Kp [] H H' ∧ TD H' v' (kd k') ∧ Full t m k' r ∧ m ≤ i ∧ k'.dp ≤ 1 ∧ ∀ s, Sol t s → ap s k' = ap s k) ⟨i, v, k, rfl, Kp.refl _ _, hv, hf, Nat.le_refl _, hk, fun _ _ => rfl⟩ ?_
  rintro m σ H1 ⟨v', k', rfl, k1, hv', hf', hm, hk', hs⟩
  walk_at "rr"
  refine r_k0 hv' ?_
  walk_at "rr"
  have fin : Seen t k' → tRet (tVar 1) ⟨fun _ H' => Q .non H', Q, fun _ _ => False, fun _ _ => False⟩ [some (V.ref d), some v'] H1 := fun sn => r_ret (r_var rfl (q v' H1 k' m k1 hv' hf' hm sn hk' hs))
  cases k' with
  | num =>
    refine r_no (by first | exact k0_num_a | exact k0_num_l | exact k0_lst_a _ | exact k0_lst_l _ | exact k0_any_a _ | exact k0_any_l _) ?_
    refine r_no rfl ?_
    exact fin (fun n e => by cases e)
  | lst k2 =>
    refine r_no (by first | exact k0_num_a | exact k0_num_l | exact k0_lst_a _ | exact k0_lst_l _ | exact k0_any_a _ | exact k0_any_l _) ?_
    refine r_no rfl ?_
    exact fin (fun n e => by cases e)
  | any j =>
    refine r_yes (by first | exact k0_num_a | exact k0_num_l | exact k0_lst_a _ | exact k0_lst_l _ | exact k0_any_a _ | exact k0_any_l _) ?_
    walk_at "rr"
    refine r_k1_any hv' ?_
    obtain ⟨kvs, g1, g0, g2⟩ := hd.mono k1 ni0
    have g2 := g2 j
    walk_at "rr"
    refine r_din_i g1 ?_
    walk_at "rr"
    cases htj : t j with
    | none =>
      rw [htj] at g2
      refine r_no (by rw [g2]; rfl) ?_
      exact fin (fun n e => by cases e; exact htj)
    | some k2 =>
      rw [htj] at g2
      obtain ⟨v2, g3, g4⟩ := g2
      refine r_yes (by rw [g3]; rfl) ?_
      refine whN ?_
      walk_at "rr"
      refine r_k1_any hv' ?_
      refine r_dget_i g1 g3 ?_
      walk_at "rr"
      cases hf' with
      | free e => rw [htj] at e; cases e
      | see e f2 =>
        rw [htj] at e
        cases e
        exact ⟨_, Nat.lt_succ_self _, v2, k2, rfl, k1, g4, f2, by omega, ht _ _ htj, fun s h => by rw [← hs s h]; exact (h j k2 htj).symm⟩
def sp_within : Sp := fun vs H Q _ => ∃ (d : Addr) (v : V) (f : Int) (t : Tb) (n : Nat) (k r : Kd) (i : Nat), vs = [.ref d, v, .int f] ∧ KtAt H d t n ∧ TD H v (kd k) ∧ Full t i k r ∧ k.dp ≤ 1 ∧ Ok t ∧
  ∀ H', Kp [] H H' → Q (.bl (decide (kend r = some f))) H'
theorem sc_is_within_it : FnScope ["table", "kind", "number"] ["table", "kind", "number"] (defScope s_is_within_it) := ⟨rfl, rfl, rfl, by decide +kernel, rfl, by decide +kernel, by decide +kernel⟩
theorem c_is_within_it (T : Txt K mg) (C_seen : Cal P w K mg base 1 "seen" ["table", "kind"] sp_seen) : Cal P w K mg base 2 "is_within_it" ["table", "kind", "number"] sp_within := by
  obtain ⟨fd, F⟩ := T.F_is_within_it
  refine mk_cal F T.g_is_within_it (fun _ _ _ _ _ _ us hl => match us, hl with | [_, _, _], _ => rfl) (mk_ok F sc_is_within_it (by walk_at "len") fun cdv A outer s H vs Q E hr h => ?_)
  obtain ⟨d, v, f, t, n, k, r, i, rfl, hd, hv, hf, hk, ok, q⟩ := h
  refine ⟨_, (pss_cons (ps_set (i := 1) sc_is_within_it.nd rfl (by first | exact Or.inl rfl | exact Or.inr rfl) (pe_cal C_seen hr (pa_cons (pv 0) (pa_cons (pv 1) pa_nil)))) (pss_cons (ps_while PassesOwn.never (pt_cmpR (op_eqXK (K := K) hr rfl) (pe_ix (ix_seqK (K := K) rfl) (pv 1) pe_int (fun _ _ => rfl)) pe_str (nomark _)) (pss_one (ps_set (i := 1) sc_is_within_it.nd rfl (by first | exact Or.inl rfl | exact Or.inr rfl) (pe_cal C_seen hr (pa_cons (pv 0) (pa_cons (pe_ix (ix_seqK (K := K) rfl) (pv 1) pe_int (fun _ _ => rfl)) pa_nil)))))) (pss_one (ps_ret (pe_cmpR (op_eqXK (K := K) hr rfl) (pv 1) (pe_tupK (pa_cons pe_str (pa_cons (pv 2) pa_nil))) (nomark _)))))), ?_⟩
  walk_at "rr"
  refine ⟨d, v, t, n, k, r, i, rfl, hd, hv, hf, hk, ok.small, fun v1 H1 k1 j kp1 hv1 hf1 hj sn1 hk1 hs1 => ?_⟩
  walk_at "rr"
  refine whileM (fun m σ H' => ∃ v' k' r', σ = [some (.ref d), some v', some (.int f)] ∧ Kp [] H H' ∧ TD H' v' (kd k') ∧ Full t m k' r' ∧ kend r' = kend r ∧ k'.dp ≤ 1 ∧ Seen t k') ⟨j, v1, k1, r, rfl, kp1, hv1, hf1, rfl, hk1, sn1⟩ ?_
  rintro m σ H2 ⟨v2, k2, r2, rfl, kp2, hv2, hf2, he2, hk2, sn2⟩
  walk_at "rr"
  refine r_k0 hv2 ?_
  walk_at "rr"
  have fin : kend r2 = kend k2 → (¬ ∃ k', k2 = .lst k') → tRet (tOp (rEqX K) (tVar 1) (tTupK (tCons (tC (.str "any")) (tCons (tVar 2) tNil)))) ⟨fun _ H' => Q .non H', Q, fun _ _ => False, fun _ _ => False⟩ [some (V.ref d), some v2, some (.int f)] H2 := fun e nl => by
    walk_at "rr"
    refine ⟨by simp, fun p3 H3 k3 n3 e3 => ?_⟩
    refine r_eq_kd (j := k2) (k := .any f) (hv2.mono k3) (TD.mk e3 (.cons (.str _) (.cons (.int _) .nil))) (by omega) ?_
    have h := q H3 (kp2.trans k3)
    rw [← he2, e] at h
    have e2 : decide (k2 = .any f) = decide (kend k2 = some f) := by
      refine decide_eq_decide.mpr ⟨fun z => by rw [z]; rfl, fun z => ?_⟩
      cases k2 with
      | num => simp [kend] at z
      | lst k' => exact absurd ⟨_, rfl⟩ nl
      | any j => simp [kend] at z; rw [z]
    rw [e2]
    exact h
  cases k2 with
  | num =>
    refine r_no (by first | exact k0_num_a | exact k0_num_l | exact k0_lst_a _ | exact k0_lst_l _ | exact k0_any_a _ | exact k0_any_l _) ?_
    refine fin ?_ (by rintro ⟨_, e⟩; cases e)
    cases hf2
    rfl
  | any j =>
    refine r_no (by first | exact k0_num_a | exact k0_num_l | exact k0_lst_a _ | exact k0_lst_l _ | exact k0_any_a _ | exact k0_any_l _) ?_
    refine fin ?_ (by rintro ⟨_, e⟩; cases e)
    cases hf2 with
    | free e => rfl
    | see e _ => rw [sn2 j rfl] at e; cases e
  | lst k3 =>
    refine r_yes (by first | exact k0_num_a | exact k0_num_l | exact k0_lst_a _ | exact k0_lst_l _ | exact k0_any_a _ | exact k0_any_l _) ?_
    refine whN ?_
    walk_at "rr"
    refine r_k1_lst hv2 fun y hy => ?_
    walk_at "rr"
    cases hf2 with
    | lst f3 =>
      have hd3 : k3.dp ≤ 1 := by simp [Kd.dp] at hk2; omega
      refine ⟨d, y, t, n, k3, _, _, rfl, hd.mono kp2 ni0, hy, f3, hd3, ok.small, fun v4 H4 k4 j4 kp4 hv4 hf4 hj4 sn4 hk4 hs4 => ?_⟩
      walk_at "rr"
      exact ⟨j4, by omega, v4, k4, _, rfl, kp2.trans kp4, hv4, hf4, by rw [← he2]; rfl, hk4, sn4⟩
end
section
variable {P : Program} {w : World} {K : PySem.W.Frag} {mg : Str → Option Value} {base : Heap}
theorem KtAt.put {H H2 : Hp} {d : Addr} {t : Tb} {n : Nat} {kvs : List (Key × V)} {f : Int} {v : V} {k : Kd} (h : H d = some (.dK kvs)) (N : KtAt H d t n) (tv : TD H v (kd k)) (kp : Kp [d] H H2) (h2 : H2 d = some (.dK (putK kvs (.inl f) v))) : KtAt H2 d (t.put f k) (n + 1) := by
  obtain ⟨kvs', h1, h3, h4⟩ := N
  rw [h] at h1
  cases h1
  refine ⟨_, h2, Nat.le_trans (length_putK _ _ _) (by omega), fun y => ?_⟩
  have h4 := h4 y
  rw [valV_put]
  unfold Tb.put
  by_cases hy : y = f
  · rw [if_pos hy, if_pos (by rw [hy])]
    exact ⟨v, rfl, tv.mono kp⟩
  · rw [if_neg hy, if_neg (fun e => hy (Sum.inl.inj e))]
    split
    · rename_i e
      rw [e] at h4
      exact h4
    · rename_i kk e
      rw [e] at h4
      obtain ⟨v', g1, g2⟩ := h4
      exact ⟨v', g1, g2.mono kp⟩
def sp_joined : Sp := fun vs H Q _ => ∃ (d : Addr) (av bv : V) (t : Tb) (n : Nat) (a b : Kd), vs = [.ref d, av, bv] ∧ KtAt H d t n ∧ n ≤ 900 ∧ TD H av (kd a) ∧ TD H bv (kd b) ∧ a.dp ≤ 1 ∧ b.dp ≤ 1 ∧ Ok t ∧
  (∀ H' t', Kp [d] H H' → KtAt H' d t' (n + 1) → Ok t' → (∀ s, Sol t' s ↔ (Sol t s ∧ ap s a = ap s b)) → Q (.bl true) H') ∧
  ∀ H', Kp [] H H' → (∀ s, Sol t s → ap s a ≠ ap s b) → Q (.bl false) H'
theorem sc_joined : FnScope ["table", "one", "other", "free", "kind"] ["table", "one", "other"] (defScope s_joined) := ⟨rfl, rfl, rfl, by decide +kernel, rfl, by decide +kernel, by decide +kernel⟩
theorem c_joined (T : Txt K mg) (C_seen : Cal P w K mg base 1 "seen" ["table", "kind"] sp_seen) (C_is_within_it : Cal P w K mg base 2 "is_within_it" ["table", "kind", "number"] sp_within) : Cal P w K mg base 3 "joined" ["table", "one", "other"] sp_joined := by
  obtain ⟨fd, F⟩ := T.F_joined
  refine mk_cal F T.g_joined (fun _ _ _ _ _ _ us hl => match us, hl with | [_, _, _], _ => rfl) (mk_ok F sc_joined (by walk_at "len") fun cdv A outer s H vs Q E hr h => ?_)
  obtain ⟨d, av, bv, t, n, a, b, rfl, hd, hn, ha, hb, da, db, ok, qt, qf⟩ := h
  refine ⟨_, (pss_cons (ps_par (i := 1) (j := 2) (by rfl) sc_joined.nd rfl rfl (by decide) rfl rfl (pa_cons (pe_cal C_seen hr (pa_cons (pv 0) (pa_cons (pv 1) pa_nil))) (pa_cons (pe_cal C_seen hr (pa_cons (pv 0) (pa_cons (pv 2) pa_nil))) pa_nil)) (by rfl)) (pss_cons (ps_while PassesOwn.never (pt_cmpR (op_neXK (K := K) hr rfl) (pv 1) (pv 2) (nomark _)) (pss_cons (ps_if (PW.pt (pw_or (pt_cmpR (op_eqXK (K := K) hr rfl) (pe_ix (ix_seqK (K := K) rfl) (pv 1) pe_int (fun _ _ => rfl)) pe_str (nomark _)) (pw_or1 (pt_cmpR (op_eqXK (K := K) hr rfl) (pe_ix (ix_seqK (K := K) rfl) (pv 2) pe_int (fun _ _ => rfl)) pe_str (nomark _))))) (pss_cons (ps_asg (pe_ifExp (pt_cmpR (op_eqXK (K := K) hr rfl) (pe_ix (ix_seqK (K := K) rfl) (pv 1) pe_int (fun _ _ => rfl)) pe_str (nomark _)) (pe_tupK (pa_cons (pv 1) (pa_cons (pv 2) pa_nil))) (pe_tupK (pa_cons (pv 2) (pa_cons (pv 1) pa_nil)))) (pg_tup rfl (pgs_cons (pg_name (i := 3) sc_joined.nd rfl (by first | exact Or.inl rfl | exact Or.inr rfl)) (pgs_cons (pg_name (i := 4) sc_joined.nd rfl (by first | exact Or.inl rfl | exact Or.inr rfl)) pgs_nil)))) (pss_cons (ps_if (pt_val (pe_cal C_is_within_it hr (pa_cons (pv 0) (pa_cons (pv 4) (pa_cons (pe_ix (ix_seqK (K := K) rfl) (pv 3) pe_int (fun _ _ => rfl)) pa_nil))))) (pss_one (ps_ret pe_bl)) pss_nil) (pss_cons (ps_dput (hu_of hr) (pv 0) (pe_ix (ix_seqK (K := K) rfl) (pv 3) pe_int (fun _ _ => rfl)) (pv 4) rfl) (pss_one (ps_ret pe_bl))))) pss_nil) (pss_cons (ps_if (pt_cmpR (op_inT hr rfl) pe_str (pe_tupK (pa_cons (pv 1) (pa_cons (pv 2) pa_nil))) rfl) (pss_one (ps_ret pe_bl)) pss_nil) (pss_one (ps_par (i := 1) (j := 2) (by rfl) sc_joined.nd rfl rfl (by decide) rfl rfl (pa_cons (pe_cal C_seen hr (pa_cons (pv 0) (pa_cons (pe_ix (ix_seqK (K := K) rfl) (pv 1) pe_int (fun _ _ => rfl)) pa_nil))) (pa_cons (pe_cal C_seen hr (pa_cons (pv 0) (pa_cons (pe_ix (ix_seqK (K := K) rfl) (pv 2) pe_int (fun _ _ => rfl)) pa_nil))) pa_nil)) (by rfl)))))) (pss_one (ps_ret pe_bl)))), ?_⟩
  obtain ⟨ia, ra, fa⟩ := ok.full a
  obtain ⟨ib, rb, fb⟩ := ok.full b
  walk_at "rr"
  refine ⟨d, av, t, n, a, ra, ia, rfl, hd, ha, fa, da, ok.small, fun v1 H1 k1 j1 kp1 hv1 hf1 hj1 sn1 hk1 hs1 => ?_⟩
  walk_at "rr"
  refine ⟨d, bv, t, n, b, rb, ib, rfl, hd.mono kp1 ni0, hb.mono kp1, fb, db, ok.small, fun v2 H2 k2 j2 kp2 hv2 hf2 hj2 sn2 hk2 hs2 => ?_⟩
  walk_at "rr"
  refine whileM (fun m σ H' => ∃ v1 v2 k1 k2 r1 r2 i1 i2, σ = [some (.ref d), some v1, some v2, none, none] ∧ Kp [] H H' ∧ TD H' v1 (kd k1) ∧ TD H' v2 (kd k2) ∧ Full t i1 k1 r1 ∧ Full t i2 k2 r2 ∧ Seen t k1 ∧ Seen t k2 ∧ k1.dp ≤ 1 ∧ k2.dp ≤ 1 ∧ m = r1.dp ∧ ∀ s, Sol t s → (ap s a = ap s b ↔ ap s k1 = ap s k2))
    ⟨_, v1, v2, k1, k2, ra, rb, j1, j2, rfl, kp1.trans kp2, hv1.mono kp2, hv2, hf1, hf2, sn1, sn2, hk1, hk2, rfl, fun s h => by rw [hs1 s h, hs2 s h]⟩ ?_
  clear hv1 hv2 hf1 hf2 sn1 sn2 hk1 hk2 hs1 hs2 kp1 kp2 hj1 hj2 v1 v2 k1 k2 fa fb H1 H2
  rintro m σ H1 ⟨v1, v2, k1, k2, r1, r2, i1, i2, rfl, kp, hv1, hv2, f1, f2, sn1, sn2, hk1, hk2, rfl, hs⟩
  walk_at "rr"
  refine r_ne_kd hv1 hv2 (by omega) ?_
  walk_at "rr"
  have hd1 := hd.mono kp ni0
  by_cases e12 : k1 = k2
  · refine r_no (by simp [e12]) ?_
    walk_at "rr"
    exact qt H1 t (kp.mono (by simp)) (by obtain ⟨kvs, g1, g2, g3⟩ := hd1; exact ⟨kvs, g1, by omega, g3⟩) ok fun s => ⟨fun h => ⟨h, (hs s h).mpr (by rw [e12])⟩, fun h => h.1⟩
  refine r_yes (by simp [e12]) ?_
  refine whN ?_
  -- a variable that is free is bound to the other
  have bind : ∀ (f : Int) (k r : Kd) (i : Nat) (fv kv : V) (σ3 : L2.St), (∀ s, Sol t s → (ap s a = ap s b ↔ s f = ap s k)) → t f = none → k ≠ .any f → Seen t k → Full t i k r → k.dp ≤ 1 → TD H1 fv (kd (.any f)) → TD H1 kv (kd k) → ∀ D : Ends, D.rt = Q → σ3[0]? = some (some (.ref d)) → σ3[3]? = some (some fv) → σ3[4]? = some (some kv) → ∀ H2, Kp [] H1 H2 →
      tIfS (tTest (tCall sp_within [] E0 (tCons (tVar 0) (tCons (tVar 4) (tCons (tOp (rIx K) (tVar 3) (tC (V.int 1))) tNil))))) (tRet (tC (.bl false))) tNext ⟨fun σ H => tSeq (sDPut (tVar 0) (tOp (rIx K) (tVar 3) (tC (.int 1))) (tVar 4)) (tRet (tC (.bl true))) D σ H, D.rt, D.bk, D.ct⟩ σ3 H2 := by
    intro f k r i fv kv σ3 hsf htf nek snk ff hk hfv hkv D hD h0 h3 h4 H2 kp2
    refine r_ifS (r_test (r_call (r_cons (r_var h0 (r_cons (r_var h4 (r_cons (r_op (r_var h3 (r_c (r_k1_any (hfv.mono kp2) (r_nil ?_))))))))))))
    refine ⟨d, kv, f, t, n, k, r, i, rfl, hd1.mono kp2 ni0, hkv.mono kp2, ff, hk, ok, fun H3 k3 => ?_⟩
    refine r_exbl ?_
    have kp3 := kp.trans (kp2.trans k3)
    by_cases hend : kend r = some f
    · refine r_yes (by simp [hend]) ?_
      refine r_ret (r_c ?_)
      rw [hD]
      refine qf H3 kp3 fun s h e => ?_
      have e1 := (hsf s h).mp e
      rw [ff.sol h] at e1
      have nr : r ≠ .any f := fun z => by
        subst z
        cases ff with
        | free e => exact nek rfl
        | see e _ => rw [snk _ rfl] at e; cases e
      have := no_self (s := s) hend nr
      rw [← e1] at this
      omega
    · refine r_no (by simp [hend]) ?_
      refine r_next ?_
      refine r_nx (r_seq (r_dput (r_var h4 (r_var h0 (r_op (r_var h3 (r_c (r_k1_any (hfv.mono (kp2.trans k3)) ?_))))))))
      have hd3 := hd1.mono (kp2.trans k3) ni0
      obtain ⟨kvs, g1, g2, g3⟩ := id hd3
      refine r_dput_i g1 (by omega) fun H4 k4 e4 => ?_
      refine r_nx (r_ret (r_c ?_))
      show D.rt (.bl true) H4
      rw [hD]
      refine qt H4 (t.put f k) ((kp3.mono (by simp)).trans k4) (KtAt.put g1 hd3 (hkv.mono (kp2.trans k3)) k4 e4) (ok.put htf hk ff hend) fun s => ?_
      rw [Sol.put htf]
      constructor
      · rintro ⟨h1, h2⟩
        exact ⟨h1, (hsf s h1).mpr h2⟩
      · rintro ⟨h1, h2⟩
        exact ⟨h1, (hsf s h1).mp h2⟩
  walk_at "rr"
  refine r_k0 hv1 ?_
  walk_at "rr"
  by_cases h1a : ∃ f, k1 = .any f
  · obtain ⟨f, rfl⟩ := h1a
    refine r_yes (k0_any_a _) ?_
    refine r_yes rfl ?_
    walk_at "rr"
    refine r_k0 hv1 ?_
    walk_at "rr"
    refine r_yes (k0_any_a _) ?_
    walk_at "rr"
    refine ⟨by simp, fun p2 H2 kp2 n2 e2 => ?_⟩
    refine r_gTup rfl e2 rfl ?_
    refine r_gCons (r_gName (r_gCons (r_gName (r_gNil ?_))))
    refine r_nx (r_seq ?_)
    exact bind f k2 r2 i2 v1 v2 _ (fun s h => hs s h) (sn1 f rfl) (fun e => e12 e.symm) sn2 f2 hk2 hv1 hv2 _ rfl rfl rfl rfl H2 kp2
  have a1 : decide (k0 k1 = "any") = false := by
    cases k1 with
    | num => exact k0_num_a
    | lst k => exact k0_lst_a k
    | any f => exact absurd ⟨f, rfl⟩ h1a
  refine r_no a1 ?_
  walk_at "rr"
  refine r_k0 hv2 ?_
  walk_at "rr"
  by_cases h2a : ∃ f, k2 = .any f
  · obtain ⟨f, rfl⟩ := h2a
    refine r_yes (k0_any_a _) ?_
    walk_at "rr"
    refine r_k0 hv1 ?_
    walk_at "rr"
    refine r_no a1 ?_
    walk_at "rr"
    refine ⟨by simp, fun p2 H2 kp2 n2 e2 => ?_⟩
    refine r_gTup rfl e2 rfl ?_
    refine r_gCons (r_gName (r_gCons (r_gName (r_gNil ?_))))
    refine r_nx (r_seq ?_)
    exact bind f k1 r1 i1 v2 v1 _ (fun s h => (hs s h).trans ⟨fun e => e.symm, fun e => e.symm⟩) (sn2 f rfl) e12 sn1 f1 hk1 hv2 hv1 _ rfl rfl rfl rfl H2 kp2
  have a2 : decide (k0 k2 = "any") = false := by
    cases k2 with
    | num => exact k0_num_a
    | lst k => exact k0_lst_a k
    | any f => exact absurd ⟨f, rfl⟩ h2a
  refine r_no a2 ?_
  walk_at "rr"
  refine ⟨by simp, fun p2 H2 kp2 n2 e2 => ?_⟩
  have hv1' := hv1.mono kp2
  have hv2' := hv2.mono kp2
  have kp' := kp.trans kp2
  refine r_inT (d := .str "number") (ds := [kd k1, kd k2]) (.str _) (TD.mk e2 (.cons hv1' (.cons hv2' .nil))) (kd_lay .num) (by simp [PyData.canLayAll0, kd_lay]) (by simp [PyData.depth]) ?_
  have ean : ([kd k1, kd k2].any fun z => PyData.eqv z (.str "number")) = (decide (k1 = .num) || decide (k2 = .num)) := by
    simp only [List.any_cons, List.any_nil, Bool.or_false]
    rw [← kd_eqv, ← kd_eqv]
    rfl
  rw [ean]
  walk_at "rr"
  cases k1 with
  | any f => exact absurd ⟨f, rfl⟩ h1a
  | num =>
    refine r_yes rfl ?_
    walk_at "rr"
    refine qf H2 kp' fun s h e => ?_
    have := (hs s h).mp e
    cases k2 with
    | any f => exact absurd ⟨f, rfl⟩ h2a
    | num => exact e12 rfl
    | lst k => simp [ap] at this
  | lst k1 =>
    cases k2 with
    | any f => exact absurd ⟨f, rfl⟩ h2a
    | num =>
      refine r_yes rfl ?_
      walk_at "rr"
      refine qf H2 kp' fun s h e => ?_
      have := (hs s h).mp e
      simp [ap] at this
    | lst k2 =>
      refine r_no rfl ?_
      walk_at "rr"
      cases f1 with
      | lst f1 =>
        cases f2 with
        | lst f2 =>
          simp [Kd.dp] at hk1 hk2
          have hd2 := hd1.mono kp2 ni0
          refine r_k1_lst hv1' fun y1 hy1 => ?_
          walk_at "rr"
          refine ⟨d, y1, t, n, k1, _, _, rfl, hd2, hy1, f1, by omega, ok.small, fun v3 H3 k3 j3 kp3 hv3 hf3 hj3 sn3 hk3 hs3 => ?_⟩
          walk_at "rr"
          refine r_k1_lst (hv2'.mono kp3) fun y2 hy2 => ?_
          walk_at "rr"
          refine ⟨d, y2, t, n, k2, _, _, rfl, hd2.mono kp3 ni0, hy2, f2, by omega, ok.small, fun v4 H4 k4 j4 kp4 hv4 hf4 hj4 sn4 hk4 hs4 => ?_⟩
          walk_at "rr"
          refine ⟨_, ?_, v3, v4, k3, k4, _, _, j3, j4, rfl, kp'.trans (kp3.trans kp4), hv3.mono kp4, hv4, hf3, hf4, sn3, sn4, hk3, hk4, rfl, fun s h => ?_⟩
          · simp [Kd.dp]
          · rw [hs s h, hs3 s h, hs4 s h]
            simp [ap]
end
section
variable {P : Program} {w : World} {K : PySem.W.Frag} {mg : Str → Option Value} {base : Heap}
/-- a list of rows -/
def RwAt (H : Hp) (l : Addr) (rs : List Row) : Prop := ∃ vs, H l = some (.lst vs) ∧ TDs H vs (rs.map rowD)
theorem RwAt.mono {M : List Addr} {H H' : Hp} {l : Addr} {rs : List Row} (k : Kp M H H') (n : l ∉ M) (h : RwAt H l rs) : RwAt H' l rs := by
  obtain ⟨vs, h1, h2⟩ := h
  exact ⟨vs, k.at h1 n, h2.mono k⟩
def Flat (rs : List Row) : Prop := ∀ r ∈ rs, r.2.1.dp ≤ 1 ∧ r.2.2.dp ≤ 1
theorem TD.row_inv {H : Hp} {v : V} {r : Row} (h : TD H v (rowD r)) : ∃ a v1 v2 v3, v = .ref a ∧ H a = some (.tup [v1, v2, v3]) ∧ TD H v1 (pl r.1) ∧ TD H v2 (kd r.2.1) ∧ TD H v3 (kd r.2.2) := by
  obtain ⟨a, xs, rfl, ha, t⟩ := h.inv
  obtain ⟨y0, ys, rfl, h0, t⟩ := t.cons_inv
  obtain ⟨y1, ys, rfl, h1, t⟩ := t.cons_inv
  obtain ⟨y2, ys, rfl, h2, t⟩ := t.cons_inv
  cases t.nil_inv
  exact ⟨a, y0, y1, y2, rfl, ha, h0, h1, h2⟩
def sp_solved : Sp := fun vs H Q _ => ∃ (l : Addr) (rs : List Row), vs = [.ref l] ∧ RwAt H l rs ∧ Flat rs ∧ rs.length ≤ 800 ∧
  (∀ H', Kp [] H H' → ¬ Sat rs → Q .non H') ∧ ∀ d H' t, Kp [] H H' → KtAt H' d t rs.length → Ok t → Sat rs → Q (.ref d) H'
theorem sc_solved : FnScope ["rows", "table", "place", "one", "other"] ["rows"] (defScope s_solved) := ⟨rfl, rfl, rfl, by decide +kernel, rfl, by decide +kernel, by decide +kernel⟩
theorem c_solved (T : Txt K mg) (C_joined : Cal P w K mg base 3 "joined" ["table", "one", "other"] sp_joined) : Cal P w K mg base 4 "solved" ["rows"] sp_solved := by
  obtain ⟨fd, F⟩ := T.F_solved
  refine mk_cal F T.g_solved (fun _ _ _ _ _ _ us hl => match us, hl with | [_], _ => rfl) (mk_ok F sc_solved (by walk_at "len") fun cdv A outer s H vs Q E hr h => ?_)
  obtain ⟨l, rs, rfl, ⟨xs, hl, ts⟩, fl, few, qn, qy⟩ := h
  refine ⟨_, (pss_cons (ps_set (i := 1) sc_solved.nd rfl (by first | exact Or.inl rfl | exact Or.inr rfl) pe_dnewK) (pss_cons (ps_for PassesOwn.never rfl (pi_list (pv 0)) (pg_tup rfl (pgs_cons (pg_name (i := 2) sc_solved.nd rfl (by first | exact Or.inl rfl | exact Or.inr rfl)) (pgs_cons (pg_name (i := 3) sc_solved.nd rfl (by first | exact Or.inl rfl | exact Or.inr rfl)) (pgs_cons (pg_name (i := 4) sc_solved.nd rfl (by first | exact Or.inl rfl | exact Or.inr rfl)) pgs_nil)))) (pss_one (ps_if (pt_not (pt_val (pe_cal C_joined hr (pa_cons (pv 1) (pa_cons (pv 3) (pa_cons (pv 4) pa_nil)))))) (pss_one (ps_ret pe_non)) pss_nil))) (pss_one (ps_ret (pv 1))))), ?_⟩
  have hlen : xs.length = rs.length := by rw [ts.1, List.length_map]
  walk_at "rr"
  intro d H1 k1 n1 e1
  walk_at "rr"
  have hl1 := k1.at hl ni0
  have ld : l ≠ d := ne_of_none hl n1
  refine ⟨⟨_, SqL.of hl1⟩, ?_⟩
  have ts1 := ts.mono k1
  have ok0 : Ok (fun _ => none) := ⟨fun k => by
    induction k with
    | num => exact ⟨_, _, .num⟩
    | lst k ih =>
      obtain ⟨i, r, h⟩ := ih
      exact ⟨_, _, .lst h⟩
    | any n => exact ⟨_, _, .free rfl⟩, fun n k e => by cases e⟩
  refine forW (walk_list (xs := xs)) (fun i σ H' => ∃ o2 o3 o4 t, σ = [some (.ref l), some (.ref d), o2, o3, o4] ∧ Kp [d] H1 H' ∧ KtAt H' d t i ∧ Ok t ∧ ∀ s, Sol t s ↔ Holds (rs.take i) s) ⟨none, none, none, _, rfl, Kp.refl _ _, ⟨[], e1, Nat.le_refl _, fun i => rfl⟩, ok0, fun s => ⟨fun _ r hr => by simp at hr, fun _ n k e => by cases e⟩⟩ ?_ ?_ ?_
  · rintro i σ H' _ ⟨_, _, _, _, _, k, _⟩
    exact SqL.of (k.at hl1 (ni1 ld))
  · rintro i x σ H2 H3 hi ⟨o2, o3, o4, t, rfl, k, kt, ok, hs⟩ ⟨rfl, hx⟩
    obtain ⟨r, hr, hir, htr⟩ := ts1.map_get hx
    obtain ⟨a, v1, v2, v3, rfl, ha, t1, t2, t3⟩ := (htr.mono k).row_inv
    have st : ∀ s, Holds (rs.take (i + 1)) s ↔ Holds (rs.take i) s ∧ ap s r.2.1 = ap s r.2.2 := fun s => by rw [take_snoc hir, Holds.snoc]
    refine r_gTup rfl ha rfl ?_
    walk_at "rr"
    refine ⟨d, v2, v3, t, i, r.2.1, r.2.2, rfl, kt, by omega, t2, t3, (fl r hr).1, (fl r hr).2, ok, fun H4 t' k4 kt' ok' hs' => ?_, fun H4 k4 hs' => ?_⟩
    · walk_at "rr"
      refine r_no rfl ?_
      walk_at "rr"
      exact ⟨_, _, _, t', rfl, k.trans k4, kt', ok', fun s => by rw [hs', hs, st]⟩
    · walk_at "rr"
      refine r_yes rfl ?_
      walk_at "rr"
      refine qn H4 (k1.fresh n1 (k.trans (k4.mono (by simp)))) ?_
      rintro ⟨s, h⟩
      have h2 : Holds (rs.take (i + 1)) s := h.sub fun q hq => List.mem_of_mem_take hq
      rw [st] at h2
      exact hs' s ((hs s).mpr h2.1) h2.2
  · rintro σ H2 ⟨o2, o3, o4, t, rfl, k, kt, ok, hs⟩
    rw [hlen] at kt hs
    rw [List.take_length] at hs
    walk_at "rr"
    refine qy d H2 t (k1.fresh n1 k) kt ok ?_
    obtain ⟨s, h⟩ := ok.sol
    exact ⟨s, (hs s).mp h⟩

/-- the rows at places that p wants -/
def atP (rs : List Row) (p : Pl → Bool) : List Row := rs.filter fun r => p r.1
/-- a least set of places that clash -/
structure Clash (rs : List Row) (ps : List Pl) : Prop where
  bad : ¬ Sat (atP rs fun q => decide (q ∈ ps))
  least : ∀ q ∈ ps, Sat (atP rs fun z => decide (z ∈ ps) && decide (z ≠ q))
  sorted : ps.Pairwise ltP
  from_ : ∀ q ∈ ps, ∃ r ∈ rs, r.1 = q
theorem r_ne_pl {H : Hp} {Q : VK} {x y : V} {j k : Pl} (h1 : TD H x (pl j)) (h2 : TD H y (pl k)) (q : Q (.bl (!decide (j = k))) H) : rNeX K x y H Q :=
  r_ne_td h1 h2 (pl_lay j) (pl_lay k) (by rw [pl_dep]; omega) (by rw [pl_eqv]; exact q)
theorem atP_sub {rs : List Row} {p q : Pl → Bool} (h : ∀ r ∈ rs, p r.1 = true → q r.1 = true) (s : Sat (atP rs q)) : Sat (atP rs p) := s.sub fun r hr => by
  obtain ⟨h1, h2⟩ := List.mem_filter.mp hr
  exact List.mem_filter.mpr ⟨h1, h r h1 h2⟩
/-- {row[0] for row in ..} -/
theorem places_sc {H1 : Hp} {l : Addr} {rs : List Row} {U : List Pl} {σ : L2.St} {i : Nat} {Q : VK} (R : RwAt H1 l rs) (hU : U.length ≤ 62) (hr : ∀ r ∈ rs, r.1 ∈ U) (hi : ∀ y, ((wipe σ [i]).set i (some y))[i]? = some (some y)) (hw : ∀ y, wipe ((wipe σ [i]).set i (some y)) [i] = wipe σ [i])
    (q : ∀ D S H', Kp [] H1 H' → SetP P w H' D S → (∀ z, z ∈ S ↔ ∃ r ∈ rs, r.1 = z) → Q (.ref D) H') : ScB K P w (Itl K l) (gName i) tYes (tOp (rIx K) (tVar i) (tC (.int 0))) [i] σ H1 Q := by
  obtain ⟨xs, hl, ts⟩ := R
  have hlen : xs.length = rs.length := by rw [ts.1, List.length_map]
  refine scW (walk_list (xs := xs)) U (fun j S _ => ∀ z, z ∈ S ↔ ∃ r ∈ rs.take j, r.1 = z) (fun H2 k => SqL.of (k.at hl ni0)) (fun D H2 _ _ z => by simp) ?_ ?_
  · rintro j x D S H2 H3 hj hD sp su k r ⟨rfl, hx⟩
    obtain ⟨rw', hrw, hjr, htr⟩ := ts.map_get hx
    obtain ⟨a, v1, v2, v3, rfl, ha, t1, t2, t3⟩ := (htr.mono k).row_inv
    refine r_gName ⟨hw _, r_yes1 (r_yes rfl ?_)⟩
    refine r_op (r_var (hi _) (r_c ?_))
    refine .inr (.inl ⟨a, _, 0, v1, rfl, rfl, SqT.of ha, rfl, ?_⟩)
    refine sc_fin hU hD sp su k t1 (hr rw' hrw) fun H5 k5 z => ?_
    rw [take_snoc hjr, List.mem_append, r z]
    simp only [List.mem_singleton, List.mem_append]
    constructor
    · rintro (⟨r0, h1, h2⟩ | h)
      · exact ⟨r0, .inl h1, h2⟩
      · exact ⟨rw', .inr rfl, h.symm⟩
    · rintro ⟨r0, h1 | h1, h2⟩
      · exact .inl ⟨r0, h1, h2⟩
      · exact .inr (by rw [← h2, h1])
  · intro D S H2 hD su k sp r
    rw [hlen, List.take_length] at r
    exact q D S H2 k sp r
def sp_fewest : Sp := fun vs H Q _ => ∃ (l : Addr) (rs : List Row) (U : List Pl), vs = [.ref l] ∧ RwAt H l rs ∧ Flat rs ∧ rs.length ≤ 800 ∧ ¬ Sat rs ∧ U.length ≤ 62 ∧ (∀ r ∈ rs, r.1 ∈ U ∧ okPl r.1) ∧
  ∀ v H' ps, Kp [] H H' → TD H' v (.tuple (ps.map pl)) → Clash rs ps → Q v H'
theorem sc_fewest : FnScope ["rows", "kept", "place", "row", "fewer"] ["rows"] (defScope s_fewest) := ⟨rfl, rfl, rfl, by decide +kernel, rfl, by decide +kernel, by decide +kernel⟩
theorem c_fewest (T : Txt K mg) (C_solved : Cal P w K mg base 4 "solved" ["rows"] sp_solved) : Cal P w K mg base 5 "fewest" ["rows"] sp_fewest := by
  obtain ⟨fd, F⟩ := T.F_fewest
  refine mk_cal F T.g_fewest (fun _ _ _ _ _ _ us hl => match us, hl with | [_], _ => rfl) (mk_ok F sc_fewest (by walk_at "len") fun cdv A outer s H vs Q E hr h => ?_)
  obtain ⟨l, rs, U, rfl, R, fl, few, bad, hU, hrU, q⟩ := h
  refine ⟨_, (pss_cons (ps_set (i := 1) sc_fewest.nd rfl (by first | exact Or.inl rfl | exact Or.inr rfl) (pe_callTy (call_listKK (K := K) rfl) (by rfl) T.b_list (by decide +kernel) (pa_cons (pv 0) pa_nil))) (pss_cons (ps_for PassesOwn.never rfl (pi_list (pe_callB (cr_sortedP rfl) (by rfl) T.b_sorted (by decide +kernel) (pa_cons (pe_scT (own := [("row", 3)]) (g := (gName 3)) (tt := tYes) hr.units rfl sc_fewest.nd (pi_list (pv 0)) (blkOk_by (own := [("row", 3)]) (N := ["rows", "kept", "place", "row", "fewer"]) (sc := defScope s_fewest) (by decide +kernel)) (fun _ _ _ _ _ => (pg_name (i := 3) sc_fewest.nd rfl (by first | exact Or.inl rfl | exact Or.inr rfl))) (fun _ _ _ _ _ => pts_nil) (fun _ _ _ _ _ => (pe_ix (ix_seqK (K := K) rfl) (pv 3) pe_int (fun _ _ => rfl)))) pa_nil))) (pg_name (i := 2) sc_fewest.nd rfl (by first | exact Or.inl rfl | exact Or.inr rfl)) (pss_cons (ps_setLc (i := 4) (own := [("row", 3)]) (g := (gName 3)) rfl sc_fewest.nd rfl rfl (sw_true rfl rfl rfl (by decide +kernel)) (pi_list (pv 1)) (blkOk_by (own := [("row", 3)]) (N := ["rows", "kept", "place", "row", "fewer"]) (sc := defScope s_fewest) (by decide +kernel)) (fun _ _ _ _ _ => (pg_name (i := 3) sc_fewest.nd rfl (by first | exact Or.inl rfl | exact Or.inr rfl))) (fun _ _ _ _ _ => (pts_one (pt_cmpR (op_neXK (K := K) hr rfl) (pe_ix (ix_seqK (K := K) rfl) (pv 3) pe_int (fun _ _ => rfl)) (pv 2) (nomark _)))) (fun _ _ _ _ _ => (pv 3))) (pss_one (ps_if (pt_cmpR op_isN1 (pe_cal C_solved hr (pa_cons (pv 4) pa_nil)) pe_non (nomark _)) (pss_one (ps_set (i := 1) sc_fewest.nd rfl (by first | exact Or.inl rfl | exact Or.inr rfl) (pv 4))) pss_nil)))) (pss_one (ps_ret (pe_callTy (call_tupleKK (K := K) rfl) (by rfl) T.b_tuple (by decide +kernel) (pa_cons (pe_callB (cr_sortedP rfl) (by rfl) T.b_sorted (by decide +kernel) (pa_cons (pe_scT (own := [("row", 3)]) (g := (gName 3)) (tt := tYes) hr.units rfl sc_fewest.nd (pi_list (pv 1)) (blkOk_by (own := [("row", 3)]) (N := ["rows", "kept", "place", "row", "fewer"]) (sc := defScope s_fewest) (by decide +kernel)) (fun _ _ _ _ _ => (pg_name (i := 3) sc_fewest.nd rfl (by first | exact Or.inl rfl | exact Or.inr rfl))) (fun _ _ _ _ _ => pts_nil) (fun _ _ _ _ _ => (pe_ix (ix_seqK (K := K) rfl) (pv 3) pe_int (fun _ _ => rfl)))) pa_nil)) pa_nil)))))), ?_⟩
  obtain ⟨xs, hl, ts⟩ := id R
  walk_at "rr"
  refine ⟨l, xs, rfl, .inl (SqL.of hl), fun l2 H1 k1 n1 e1 => ?_⟩
  have R1 : RwAt H1 l2 (atP rs fun _ => true) := ⟨xs, e1, by
    have e : atP rs (fun _ => true) = rs := by simp [atP]
    rw [e]
    exact ts.mono k1⟩
  walk_at "rr"
  refine ⟨⟨_, SqL.of (k1.at hl ni0)⟩, ?_⟩
  refine places_sc (R.mono k1 ni0) hU (fun r hr => (hrU r hr).1) (fun _ => rfl) (fun _ => rfl) fun D S1 H2 k2 sp hS1 => ?_
  walk_at "rr"
  have okS : ∀ z, (∃ r ∈ rs, r.1 = z) → okPl z := fun z ⟨r, h1, h2⟩ => by
    rw [← h2]
    exact (hrU r h1).2
  refine ⟨D, S1, rfl, sp, fun z hz => okS z ((hS1 z).mp hz), fun l3 ys qs H3 k3 n3 e3 t3 hqs pw => ?_⟩
  walk_at "rr"
  refine ⟨⟨_, SqL.of e3⟩, ?_⟩
  have hlen : ys.length = qs.length := by rw [t3.1, List.length_map]
  have k03 : Kp [] H H3 := k1.trans (k2.trans k3)
  refine forW (walk_list (xs := ys)) (fun i σ H' => ∃ l4 o2 o4 keep, σ = [some (.ref l), some (.ref l4), o2, none, o4] ∧ Kp [] H3 H' ∧ RwAt H' l4 (atP rs keep) ∧ ¬ Sat (atP rs keep) ∧ ∀ j q, j < i → qs[j]? = some q → keep q = true → Sat (atP rs fun z => keep z && decide (z ≠ q)))
    ⟨l2, none, none, fun _ => true, rfl, Kp.refl _ _, R1.mono (k2.trans k3) ni0, by rw [show atP rs (fun _ => true) = rs from by simp [atP]]; exact bad, fun j q hj => absurd hj (by omega)⟩ ?_ ?_ ?_
  · rintro i σ H' _ ⟨_, _, _, _, _, k, _⟩
    exact SqL.of (k.at e3 ni0)
  · rintro i x σ H4 H5 hi ⟨l4, o2, o4, keep, rfl, k, R4, bad4, lst⟩ ⟨rfl, hx⟩
    obtain ⟨q0, hq0, hiq, htq⟩ := t3.map_get hx
    have hv := htq.mono k
    obtain ⟨zs, hz1, hz2⟩ := id R4
    have hzl : zs.length = (atP rs keep).length := by rw [hz2.1, List.length_map]
    have hal : (atP rs keep).length ≤ rs.length := List.length_filter_le _ _
    walk_at "rr"
    refine ⟨⟨_, SqL.of hz1⟩, ?_⟩
    refine lcW (walk_list (xs := zs)) (by omega) [] (fun j acc H' => TDs H' acc ((((atP rs keep).take j).filter fun r => decide (r.1 ≠ q0)).map rowD)) (fun H6 k6 => SqL.of (k6.at hz1 ni0)) (fun _ _ _ _ => .nil) ?_ ?_
    · rintro j z D acc H6 H7 hj hD hl6 k6 hdd ra ⟨rfl, hz⟩
      obtain ⟨r0, hr0, hjr, htr⟩ := hz2.map_get hz
      have htr' := htr.mono k6
      obtain ⟨a, v1, v2, v3, rfl, ha, t1, t2, t3'⟩ := htr'.row_inv
      walk_at "rr"
      refine ⟨rfl, ?_⟩
      walk_at "rr"
      refine .inr (.inl ⟨a, _, 0, v1, rfl, rfl, SqT.of ha, rfl, ?_⟩)
      refine r_var rfl ?_
      refine r_ne_pl t1 (hv.mono k6) ?_
      walk_at "rr"
      by_cases hne : r0.1 = q0
      · refine r_no (by simp [hne]) ?_
        refine ⟨acc, by omega, k6, hdd, ?_⟩
        show TDs _ _ ((((atP rs keep).take (j + 1)).filter fun r => decide (r.1 ≠ q0)).map rowD)
        rw [take_snoc hjr, List.filter_append]
        simpa [hne] using ra
      · refine r_yes (by simp [hne]) ?_
        walk_at "rr"
        refine lc_fin hD (by omega) hl6 k6 hdd fun H8 k8 => ?_
        show TDs _ _ ((((atP rs keep).take (j + 1)).filter fun r => decide (r.1 ≠ q0)).map rowD)
        rw [take_snoc hjr, List.filter_append]
        have e : [r0].filter (fun r => decide (r.1 ≠ q0)) = [r0] := by simp [hne]
        rw [e, List.map_append]
        exact (ra.snoc htr').mono k8
    · intro D acc H6 hD hl6 k6 hdd ra
      rw [hzl, List.take_length] at ra
      have ef : (atP rs keep).filter (fun r => decide (r.1 ≠ q0)) = atP rs fun z => keep z && decide (z ≠ q0) := by
        unfold atP
        rw [List.filter_filter]
        congr 1
        funext r
        exact Bool.and_comm _ _
      rw [ef] at ra
      walk_at "rr"
      refine ⟨D, _, rfl, ⟨acc, hdd, ra⟩, fun r hr => fl r ((List.mem_filter.mp hr).1), Nat.le_trans (List.length_filter_le _ _) few, fun H7 k7 ns => ?_, fun d H7 t k7 kt ok st => ?_⟩
      · walk_at "rr"
        refine r_isN_non ?_
        walk_at "rr"
        refine r_yes rfl ?_
        walk_at "rr"
        refine ⟨D, _, _, fun z => keep z && decide (z ≠ q0), rfl, k.trans (k6.trans k7), ⟨acc, k7.at hdd ni0, ra.mono k7⟩, ns, fun j q hj hjq hk => ?_⟩
        by_cases hji : j < i
        · refine atP_sub (fun r hr h => ?_) (lst j q hji hjq (by simp at hk; exact hk.1))
          simp at h ⊢
          exact ⟨h.1.1, h.2⟩
        · have hji : j = i := by omega
          subst hji
          rw [hiq] at hjq
          cases hjq
          simp at hk
      · walk_at "rr"
        refine r_isN_ref ?_
        walk_at "rr"
        refine r_no rfl ?_
        walk_at "rr"
        refine ⟨l4, _, _, keep, rfl, k.trans (k6.trans k7), R4.mono (k6.trans k7) ni0, bad4, fun j q hj hjq hk => ?_⟩
        by_cases hji : j < i
        · exact lst j q hji hjq hk
        · have hji : j = i := by omega
          subst hji
          rw [hiq] at hjq
          cases hjq
          exact st
  · rintro σ H4 ⟨l4, o2, o4, keep, rfl, k, R4, bad4, lst⟩
    obtain ⟨zs, hz1, hz2⟩ := id R4
    walk_at "rr"
    refine ⟨⟨_, SqL.of hz1⟩, ?_⟩
    have inr : ∀ z, (∃ r ∈ atP rs keep, r.1 = z) → ∃ r ∈ rs, r.1 = z := fun z ⟨r, h1, h2⟩ => ⟨r, (List.mem_filter.mp h1).1, h2⟩
    refine places_sc R4 hU (fun r hr => (hrU r ((List.mem_filter.mp hr).1)).1) (fun _ => rfl) (fun _ => rfl) fun D S H5 k5 sp hS => ?_
    walk_at "rr"
    refine ⟨D, S, rfl, sp, fun z hz => okS z (inr z ((hS z).mp hz)), fun l6 ys6 ps H6 k6 n6 e6 t6 hps pw6 => ?_⟩
    refine r_tuple_l e6 t6 fun y H7 k7 t7 => ?_
    refine q y H7 ps (k03.trans (k.trans (k5.trans (k6.trans k7)))) t7 ?_
    have inps : ∀ z, z ∈ ps ↔ ∃ r ∈ atP rs keep, r.1 = z := fun z => (hps z).trans (hS z)
    have keepOf : ∀ r ∈ rs, r.1 ∈ ps ↔ keep r.1 = true := fun r hr => by
      rw [inps]
      constructor
      · rintro ⟨r', h1, h2⟩
        rw [← h2]
        exact (List.mem_filter.mp h1).2
      · intro h
        exact ⟨r, List.mem_filter.mpr ⟨hr, h⟩, rfl⟩
    refine ⟨fun s => bad4 (atP_sub (fun r hr h => by simp [(keepOf r hr).mpr h]) s), fun z hz => ?_, pw6, fun z hz => inr z ((inps z).mp hz)⟩
    obtain ⟨r, h1, h2⟩ := (inps z).mp hz
    have hkz : keep z = true := by
      rw [← h2]
      exact (List.mem_filter.mp h1).2
    have hzq : z ∈ qs := (hqs z).mpr ((hS1 z).mpr (inr z ⟨r, h1, h2⟩))
    obtain ⟨j, hj⟩ := List.getElem?_of_mem hzq
    refine atP_sub (fun r hr h => ?_) (lst j z (by rw [hlen]; exact (List.getElem?_eq_some_iff.mp hj).1) hj hkz)
    simp at h ⊢
    exact ⟨(keepOf r hr).mp h.1, h.2⟩
end
section
variable {P : Program} {w : World} {K : PySem.W.Frag} {mg : Str → Option Value} {base : Heap}
theorem KtAt.few {H : Hp} {d : Addr} {t : Tb} {n : Nat} (h : KtAt H d t n) {vs : List Int} (nd : vs.Nodup) (hv : ∀ v ∈ vs, ∃ k, t v = some k) : vs.length ≤ n := by
  obtain ⟨kvs, h1, h2, h3⟩ := h
  have := nodup_len (vs.map Sum.inl) (kvs.map (·.1)) (List.pairwise_map.mpr (List.Pairwise.imp (fun h e => h (Sum.inl.inj e)) nd)) fun z hz => by
    obtain ⟨v, hvv, rfl⟩ := List.mem_map.mp hz
    obtain ⟨k, hk⟩ := hv v hvv
    have h3 := h3 v
    rw [hk] at h3
    obtain ⟨y, hy, _⟩ := h3
    exact valV_in hy
  rw [List.length_map, List.length_map] at this
  omega
/-- a dict of ints -/
def NmAt (H : Hp) (d : Addr) : Prop := ∃ kvs : List (Key × V), H d = some (.dK kvs) ∧ kvs.length ≤ 900
def sp_told (n : Nat) : Sp := fun vs H Q _ => ∃ (d : Addr) (v : V) (t : Tb) (m : Nat) (k r : Kd) (i : Nat) (nm : Addr) (j : Nat), vs = [.ref d, v, .ref nm] ∧ nm ≠ d ∧ KtAt H d t m ∧ TD H v (kd k) ∧ Full t i k r ∧ k.dp ≤ 1 ∧ Ok t ∧ r.dp < n ∧ (∃ kvs : List (Key × V), H nm = some (.dK kvs) ∧ kvs.length ≤ j) ∧ j ≤ 900 ∧
  ∀ v' H', Kp [nm] H H' → (∃ kvs : List (Key × V), H' nm = some (.dK kvs) ∧ kvs.length ≤ j + 1) → Q v' H'
theorem sc_told_kind : FnScope ["table", "kind", "names"] ["table", "kind", "names"] (defScope s_told_kind) := ⟨rfl, rfl, rfl, by decide +kernel, rfl, by decide +kernel, by decide +kernel⟩
theorem c_told0 (T : Txt K mg) : Cal P w K mg base 2 "told_kind" ["table", "kind", "names"] (sp_told 0) := by
  obtain ⟨fd, F⟩ := T.F_told_kind
  have no : ∀ vs H Q E, ¬ sp_told 0 vs H Q E := fun vs H Q E h => by
    obtain ⟨_, _, _, _, _, _, _, _, _, _, _, _, _, _, _, _, d, _⟩ := h
    omega
  exact mk_cal F T.g_told_kind (fun _ _ _ _ _ _ us hl => match us, hl with | [_, _, _], _ => rfl) ⟨fun vs H Q E h => absurd h (no vs H Q E), fun A outer s H args us vs Q E _ _ _ _ h => absurd h (no vs H Q E)⟩
theorem c_told1 {n : Nat} (T : Txt K mg) (C_seen : Cal P w K mg base 1 "seen" ["table", "kind"] sp_seen) (C_told_kind : Cal P w K mg base (n + 2) "told_kind" ["table", "kind", "names"] (sp_told n)) : Cal P w K mg base (n + 3) "told_kind" ["table", "kind", "names"] (sp_told (n + 1)) := by
  obtain ⟨fd, F⟩ := T.F_told_kind
  refine mk_cal F T.g_told_kind (fun _ _ _ _ _ _ us hl => match us, hl with | [_, _, _], _ => rfl) (mk_ok F sc_told_kind (by walk_at "len") fun cdv A outer s H vs Q E hr h => ?_)
  obtain ⟨d, v, t, m, k, r, i, nm, j, rfl, hne, hd, hv, hf, hk, ok, hr2, ⟨kvs, hn, hl⟩, hj, q⟩ := h
  refine ⟨_, (pss_cons (ps_set (i := 1) sc_told_kind.nd rfl (by first | exact Or.inl rfl | exact Or.inr rfl) (pe_cal C_seen hr (pa_cons (pv 0) (pa_cons (pv 1) pa_nil)))) (pss_cons (ps_if (pt_cmpR (op_eqXK (K := K) hr rfl) (pv 1) pe_str (nomark _)) (pss_one (ps_ret (pv 1))) pss_nil) (pss_cons (ps_if (pt_cmpR (op_eqXK (K := K) hr rfl) (pe_ix (ix_seqK (K := K) rfl) (pv 1) pe_int (fun _ _ => rfl)) pe_str (nomark _)) (pss_one (ps_ret (pe_tupK (pa_cons pe_str (pa_cons (pe_cal C_told_kind hr (pa_cons (pv 0) (pa_cons (pe_ix (ix_seqK (K := K) rfl) (pv 1) pe_int (fun _ _ => rfl)) (pa_cons (pv 2) pa_nil)))) pa_nil))))) pss_nil) (pss_cons (ps_expr (pe_dsetd (pv 2) (pe_ix (ix_seqK (K := K) rfl) (pv 1) pe_int (fun _ _ => rfl)) (pe_callB call_lenD (by rfl) T.b_len PySem.boot_len (pa_cons (pv 2) pa_nil)) ⟨rfl, rfl, rfl, rfl⟩)) (pss_one (ps_ret (pe_tupK (pa_cons pe_str (pa_cons (pe_dget (hu_of hr) (pv 2) (pe_ix (ix_seqK (K := K) rfl) (pv 1) pe_int (fun _ _ => rfl)) (fun _ _ => rfl)) pa_nil))))))))), ?_⟩
  walk_at "rr"
  refine ⟨d, v, t, m, k, r, i, rfl, hd, hv, hf, hk, ok.small, fun v1 H1 k1 i1 kp1 hv1 hf1 hi1 sn1 hk1 hs1 => ?_⟩
  have hn1 := kp1.at hn ni0
  walk_at "rr"
  refine r_eq_kd (j := k1) (k := .num) hv1 (.str _) (by omega) ?_
  walk_at "rr"
  cases k1 with
  | num =>
    refine r_yes rfl ?_
    walk_at "rr"
    exact q _ H1 (kp1.mono (by simp)) ⟨kvs, hn1, by omega⟩
  | lst k2 =>
    refine r_no rfl ?_
    walk_at "rr"
    refine r_k0 hv1 ?_
    walk_at "rr"
    refine r_yes (k0_lst_l _) ?_
    walk_at "rr"
    refine r_k1_lst hv1 fun y hy => ?_
    walk_at "rr"
    cases hf1 with
    | lst f2 =>
      simp [Kd.dp] at hk1 hr2
      refine ⟨d, y, t, m, k2, _, _, nm, j, rfl, hne, hd.mono kp1 ni0, hy, f2, by omega, ok, by omega, ⟨kvs, hn1, hl⟩, hj, fun v3 H3 kp3 hn3 => ?_⟩
      refine ⟨by simp, fun p4 H4 kp4 n4 e4 => ?_⟩
      obtain ⟨kv3, hn3, hl3⟩ := hn3
      exact q _ H4 ((kp1.mono (by simp)).trans (kp3.trans (kp4.mono (by simp)))) ⟨kv3, kp4.at hn3 ni0, hl3⟩
  | any f =>
    refine r_no rfl ?_
    walk_at "rr"
    refine r_k0 hv1 ?_
    walk_at "rr"
    refine r_no (k0_any_l _) ?_
    walk_at "rr"
    refine ⟨.inl ⟨kvs, .inl hn1⟩, ?_⟩
    walk_at "rr"
    refine r_k1_any hv1 ?_
    walk_at "rr"
    refine ⟨nm, kvs, rfl, hn1, ?_⟩
    have tail : ∀ H2 (kv2 : List (Key × V)) (z : V), Kp [nm] H1 H2 → H2 nm = some (.dK kv2) → kv2.length ≤ j + 1 → valV kv2 (.inl f) = some z → tRet (tTupK (tCons (tC (.str "any")) (tCons (tDGet (tVar 2) (tOp (rIx K) (tVar 1) (tC (.int 1)))) tNil))) ⟨fun _ H' => Q .non H', Q, fun _ _ => False, fun _ _ => False⟩ [some (V.ref d), some v1, some (V.ref nm)] H2 := fun H2 kv2 z kp2 e2 l2 hz => by
      walk_at "rr"
      refine r_k1_any (hv1.mono kp2) ?_
      refine r_dget_i e2 hz ?_
      refine ⟨by simp, fun p4 H4 kp4 n4 e4 => ?_⟩
      exact q _ H4 ((kp1.mono (by simp)).trans (kp2.trans (kp4.mono (by simp)))) ⟨kv2, kp4.at e2 ni0, l2⟩
    refine ⟨kvs, .inl f, hn1, rfl, small1000 (by omega), fun z hz => ?_, fun hz => ?_⟩
    · exact tail H1 kvs z (Kp.refl _ _) hn1 (by omega) hz
    · refine tail _ (putK kvs (.inl f) (.int (kvs.length : Nat))) (.int (kvs.length : Nat)) (Kp.wr (by simp) hn1 rfl) upd_same (Nat.le_trans (length_putK _ _ _) (by omega)) ?_
      rw [valV_put, if_pos rfl]
theorem c_told (T : Txt K mg) (C_seen : Cal P w K mg base 1 "seen" ["table", "kind"] sp_seen) : ∀ n, Cal P w K mg base (n + 2) "told_kind" ["table", "kind", "names"] (sp_told n)
  | 0 => c_told0 T
  | n + 1 => c_told1 T C_seen (c_told T C_seen n)
end
section
variable {P : Program} {w : World} {K : PySem.W.Frag} {mg : Str → Option Value} {base : Heap}
theorem plsP_ok {p : List Df} (S : Sound p) : ∀ q ∈ plsP p, okPl q := fun q hq => by
  obtain ⟨d, hd, hq⟩ := List.mem_flatMap.mp hq
  have ok := S.ok d hd
  rcases List.mem_cons.mp hq with e | hq
  · rw [e]
    exact ok.p
  · exact pls_ok ok.dep ok.body q hq
theorem Kp.off {M : List Addr} {H0 H1 H2 : Hp} (k : Kp [] H0 H1) (q : Kp M H1 H2) (h : ∀ b ∈ M, H0 b = none) : Kp [] H0 H2 := ((k.mono (by simp)).trans q).drop fun b hb => .inr (h b hb)
theorem r_make {C : Addr} {sp : Sp} {t : TA} {σ : L2.St} {H : Hp} {Q : VK} (h : t σ H fun vs H1 => ∀ x dx, H1 x = none → H1 dx = none → dx ≠ x → sp (.ref x :: vs) (upd (upd H1 dx (.own x)) x (.ins C dx [])) (fun v H2 => v = .non ∧ Q (.ref x) H2) E0) : tMake C sp [] E0 t σ H Q := by
  have e : (fun (vs : List V) (H1 : Hp) => ∀ x dx, H1 x = none → H1 dx = none → dx ≠ x → sp (.ref x :: (vs ++ [])) (upd (upd H1 dx (.own x)) x (.ins C dx [])) (fun v H2 => v = .non ∧ Q (.ref x) H2) E0) = fun vs H1 => ∀ x dx, H1 x = none → H1 dx = none → dx ≠ x → sp (.ref x :: vs) (upd (upd H1 dx (.own x)) x (.ins C dx [])) (fun v H2 => v = .non ∧ Q (.ref x) H2) E0 := by
    funext vs H1
    rw [List.append_nil]
  show t σ H fun (vs : List V) (H1 : Hp) => ∀ x dx, H1 x = none → H1 dx = none → dx ≠ x → sp (.ref x :: (vs ++ [])) (upd (upd H1 dx (.own x)) x (.ins C dx [])) (fun v H2 => v = .non ∧ Q (.ref x) H2) E0
  rw [e]
  exact h
/-- fewer rows than twice the trees -/
theorem genArgs_len2 {f : Tree → Nat → List Row × Nat} {p : Pl} (h : ∀ t c, (f t c).1.length + 1 ≤ 2 * sz t) : ∀ (ks : List Kd) (ts : List Tree) (c : Nat), (genArgs f p ks ts c).1.length ≤ 2 * szs ts
  | [], _, _ => by simp [genArgs]
  | _ :: _, [], _ => by simp [genArgs]
  | k :: ks, t :: ts, c => by
    have h1 := h t c
    have h2 := genArgs_len2 (p := p) h ks ts (f t c).2
    simp only [genArgs, List.length_append, List.length_cons, szs]
    omega
theorem gen_len2 (tb : Tab') : ∀ (n : Nat) (t : Tree) (near : Env') (c : Nat), (gen tb n t near c).1.length + 1 ≤ 2 * sz t
  | 0, t, near, c => by
    have := sz_pos t
    simp only [gen, List.length_nil]
    omega
  | n + 1, t, near, c => by
    have ih := fun t near c => gen_len2 tb n t near c
    cases t with
    | num p i => simp [gen, sz]
    | nil p => simp [gen, sz]
    | use p x as =>
      simp only [gen]
      split
      · simp [sz]; omega
      · split
        · rename_i ks k hk
          have : (genArgs (fun t c => gen tb n t near c) p ks as (c + 1)).1.length ≤ 2 * szs as := genArgs_len2 (fun t c => ih t near c) ks as (c + 1)
          simp only [List.length_append, List.length_cons, List.length_nil, sz]
          omega
        · simp [sz]; omega
    | op p s l r =>
      have h1 := ih l near (c + 1)
      have h2 := ih r near (gen tb n l near (c + 1)).2
      have h3 := genOp_len p s (an c) (an (c + 1)) (an (gen tb n l near (c + 1)).2)
      simp only [gen, List.length_append, sz]
      omega
    | ite p x y z =>
      have h1 := ih x near (c + 1)
      have h2 := ih y near (gen tb n x near (c + 1)).2
      have h3 := ih z near (gen tb n y near (gen tb n x near (c + 1)).2).2
      simp only [gen, List.length_append, List.length_cons, List.length_nil, sz]
      omega
    | lt p x a b =>
      have h1 := ih a near (c + 2)
      have h2 := ih b (near.put x (an (c + 1))) (gen tb n a near (c + 2)).2
      simp only [gen, List.length_append, List.length_cons, List.length_nil, sz]
      omega
    | cs p w e h t b =>
      have h1 := ih w near (c + 3)
      have h2 := ih e near (gen tb n w near (c + 3)).2
      have h3 := ih b ((near.put h (an (c + 1))).put t (an (c + 2))) (gen tb n e near (gen tb n w near (c + 3)).2).2
      simp only [gen, List.length_append, List.length_cons, List.length_nil, sz]
      omega
theorem genDs_len2 (tb : Tab') : ∀ (ds : List Df) (hs : List (List Kd × Kd)) (c : Nat), (genDs tb ds hs c).1.length ≤ 2 * szP ds
  | [], _, c => by simp [genDs]
  | _ :: _, [], c => by simp [genDs]
  | d :: ds, h :: hs, c => by
    have h1 := gen_len2 tb 10 d.body (envOf d.params h.1) c
    have h2 := genDs_len2 tb ds hs (gen tb 10 d.body (envOf d.params h.1) c).2
    simp only [genDs, szP, List.map_cons, List.sum_cons, List.length_append, List.length_cons] at h2 ⊢
    omega
def sp_kinds : Sp := fun vs H Q _ => ∃ (v : V) (p : List Df), vs = [v] ∧ TD H v (.tuple (p.map df)) ∧ Sound p ∧ 6 * szP p ≤ 290 ∧
  (∀ v' H' ps, Kp [] H H' → TD H' v' (.tuple [.str "clash", .tuple (ps.map pl)]) → Clash (rsP p) ps → Q v' H') ∧
  ∀ a x H', Kp [] H H' → H' a = some (.tup [.str "kinds", x]) → Q (.ref a) H'
theorem sc_kinds : FnScope ["program", "demands", "table", "names", "notes", "one", "params", "own", "told", "param"] ["program"] (defScope s_kinds) := ⟨rfl, rfl, rfl, by decide +kernel, rfl, by decide +kernel, by decide +kernel⟩
theorem c_kinds (T : Txt K mg) (C_need_sound : Cal P w K mg base 19 "need_sound" ["program"] sp_need_sound) (C_init : ∃ fd, Binds K fd ["self", "program"] [] ∧ FnOk P w K mg base CX0 23 (He.ma K (He.ga K "Demands") "__init__") fd ["self", "program"] (sp_init K))
    (C_solved : Cal P w K mg base 4 "solved" ["rows"] sp_solved) (C_fewest : Cal P w K mg base 5 "fewest" ["rows"] sp_fewest) (C_told_kind : Cal P w K mg base 202 "told_kind" ["table", "kind", "names"] (sp_told 200)) : Cal P w K mg base 203 "kinds" ["program"] sp_kinds := by
  obtain ⟨fdI, BI, FI⟩ := C_init
  obtain ⟨fd, F⟩ := T.F_kinds
  refine mk_cal F T.g_kinds (fun _ _ _ _ _ _ us hl => match us, hl with | [_], _ => rfl) (mk_ok F sc_kinds (by walk_at "len") fun cdv A outer s H vs Q E hr h => ?_)
  obtain ⟨v, p, rfl, hv, S, hsz, qc, qk⟩ := h
  obtain ⟨a, xs, rfl, ha, ts⟩ := hv.inv
  refine ⟨_, (pss_cons (ps_expr (pe_cal C_need_sound hr (pa_cons (pv 0) pa_nil))) (pss_cons (ps_set (i := 1) sc_kinds.nd rfl (by first | exact Or.inl rfl | exact Or.inr rfl) (pe_make T.mkr FI (hr.mono (by decide)) (by rfl) T.g_Demands BI .nil pass0 (pa_cons (pv 0) pa_nil))) (pss_cons (ps_set (i := 2) sc_kinds.nd rfl (by first | exact Or.inl rfl | exact Or.inr rfl) (pe_cal C_solved hr (pa_cons (pe_fld (pv 1) rfl) pa_nil))) (pss_cons (ps_if (pt_cmpR op_isN1 (pv 2) pe_non (nomark _)) (pss_one (ps_ret (pe_tupK (pa_cons pe_str (pa_cons (pe_cal C_fewest hr (pa_cons (pe_fld (pv 1) rfl) pa_nil)) pa_nil))))) pss_nil) (pss_cons (ps_set (i := 3) sc_kinds.nd rfl (by first | exact Or.inl rfl | exact Or.inr rfl) pe_dnewK) (pss_cons (ps_set (i := 4) sc_kinds.nd rfl (by first | exact Or.inl rfl | exact Or.inr rfl) (pe_lstK pa_nil)) (pss_cons (ps_for PassesOwn.never rfl (pi_tup (pv 0)) (pg_name (i := 5) sc_kinds.nd rfl (by first | exact Or.inl rfl | exact Or.inr rfl)) (pss_cons (ps_asg (pe_dget (hu_of hr) (pe_fld (pv 1) rfl) (pe_ix (ix_seqK (K := K) rfl) (pv 5) pe_int (fun _ _ => rfl)) (fun _ _ => rfl)) (pg_tup rfl (pgs_cons (pg_name (i := 6) sc_kinds.nd rfl (by first | exact Or.inl rfl | exact Or.inr rfl)) (pgs_cons (pg_name (i := 7) sc_kinds.nd rfl (by first | exact Or.inl rfl | exact Or.inr rfl)) pgs_nil)))) (pss_cons (ps_set (i := 8) sc_kinds.nd rfl (by first | exact Or.inl rfl | exact Or.inr rfl) (pe_callTy (call_tupleKK (K := K) rfl) (by rfl) T.b_tuple (by decide +kernel) (pa_cons (pe_lc (own := [("param", 9)]) (g := (gName 9)) (tt := tYes) rfl sc_kinds.nd (pi_list (pv 6)) (blkOk_by (own := [("param", 9)]) (N := ["program", "demands", "table", "names", "notes", "one", "params", "own", "told", "param"]) (sc := defScope s_kinds) (by decide +kernel)) (fun _ _ _ _ _ => (pg_name (i := 9) sc_kinds.nd rfl (by first | exact Or.inl rfl | exact Or.inr rfl))) (fun _ _ _ _ _ => pts_nil) (fun _ _ _ _ _ => (pe_cal C_told_kind hr (pa_cons (pv 2) (pa_cons (pv 9) (pa_cons (pv 3) pa_nil)))))) pa_nil))) (pss_one (ps_expr (pe_bm PySem.F.plainAttrs_list PySem.F.slot_list_append PySem.F.type_list_append mt_append (pv 4) (pa_cons (pe_tupK (pa_cons (pe_ix (ix_seqK (K := K) rfl) (pv 5) pe_int (fun _ _ => rfl)) (pa_cons (pv 8) (pa_cons (pe_cal C_told_kind hr (pa_cons (pv 2) (pa_cons (pv 7) (pa_cons (pv 3) pa_nil)))) pa_nil)))) pa_nil))))))) (pss_one (ps_ret (pe_tupK (pa_cons pe_str (pa_cons (pe_callTy (call_tupleKK (K := K) rfl) (by rfl) T.b_tuple (by decide +kernel) (pa_cons (pv 4) pa_nil)) pa_nil)))))))))))), ?_⟩
  have hlen : xs.length = p.length := by rw [ts.1, List.length_map]
  have hp8 := S.few
  walk_at "rr"
  refine ⟨_, p, rfl, hv, S, fun H1 k1 => ?_⟩
  walk_at "rr"
  refine r_make ?_
  walk_at "rr"
  intro x dx hx hdx hne
  have kA : Kp [] H1 (upd H1 dx (.own x)) := Kp.new hdx
  have hx' : (upd H1 dx (.own x)) x = none := by rw [upd_ne (Ne.symm hne)]; exact hx
  have kB : Kp [] (upd H1 dx (.own x)) (upd (upd H1 dx (.own x)) x (.ins (dmC K) dx [])) := Kp.new hx'
  have k2 := kA.trans kB
  have k02 := k1.trans k2
  refine ⟨x, dx, _, p, rfl, upd_same, hv.mono k02, S, by omega, fun l d H3 k3 D3 => ⟨rfl, ?_⟩⟩
  have k13 : Kp [] H1 H3 := k2.off k3 (by simp [hx])
  have k03 := k1.trans k13
  clear kA kB k2 k02 k3 hx' k1 k13 hdx hne hx H1
  have good := rsP_good p
  have flat : Flat (rsP p) := fun r hr => (good r hr).2
  have rl : (rsP p).length ≤ 290 := Nat.le_trans (genDs_len _ _ _ _) hsz
  have plen := plsP_len p
  have rl2 : (rsP p).length ≤ 2 * szP p := genDs_len2 _ _ _ _
  obtain ⟨dx3, hi3⟩ := D3.ins
  walk_at "rr"
  refine r_selfF rfl hi3 T.cls T.no_rows rfl ?_
  walk_at "rr"
  refine ⟨l, rsP p, rfl, D3.rows, flat, by omega, fun H4 k4 ns => ?_, fun d4 H4 t k4 kt ok st => ?_⟩
  · have D4 := D3.mono0 k4
    obtain ⟨dx4, hi4⟩ := D4.ins
    walk_at "rr"
    refine r_isN_non ?_
    walk_at "rr"
    refine r_yes rfl ?_
    walk_at "rr"
    refine r_selfF rfl hi4 T.cls T.no_rows rfl ?_
    walk_at "rr"
    refine ⟨l, rsP p, plsP p, rfl, D4.rows, flat, by omega, ns, by omega, fun r hr => ⟨(good r hr).1, plsP_ok S _ (good r hr).1⟩, fun v5 H5 ps k5 t5 cl => ?_⟩
    refine ⟨by simp, fun p6 H6 k6 n6 e6 => ?_⟩
    exact qc _ H6 ps (k03.trans (k4.trans (k5.trans k6))) (TD.mk e6 (.cons (.str _) (.cons (t5.mono k6) .nil))) cl
  · have D4 := D3.mono0 k4
    have k04 := k03.trans k4
    walk_at "rr"
    refine r_isN_ref ?_
    walk_at "rr"
    refine r_no rfl ?_
    walk_at "rr"
    intro nm H5 k5 n5 e5
    walk_at "rr"
    refine ⟨by simp, fun nts H6 k6 n6 e6 => ?_⟩
    have n6' : H4 nts = none := k5.free n6
    have hnn : nm ≠ nts := ne_kind (k6.at e5 ni0) e6 (by simp)
    have ha6 := (k04.trans (k5.trans k6)).atT ha
    walk_at "rr"
    refine ⟨⟨_, SqT.of ha6⟩, ?_⟩
    have hnd : nm ≠ d4 := by
      obtain ⟨kvs, g, _⟩ := kt
      exact (ne_of_none g n5).symm
    refine forW (walk_tup (xs := xs)) (fun i σ H' => ∃ o5 o7 o8 o9, σ = [some (.ref a), some (.ref x), some (.ref d4), some (.ref nm), some (.ref nts), o5, o7, o8, o9, none] ∧ Kp [] H4 H' ∧ (∃ kvs : List (Key × V), H' nm = some (.dK kvs) ∧ kvs.length ≤ 5 * i) ∧ ∃ ws, H' nts = some (.lst ws) ∧ ws.length ≤ i)
      ⟨none, none, none, none, rfl, k5.trans k6, ⟨[], k6.at e5 ni0, by simp⟩, [], e6, by simp⟩ ?_ ?_ ?_
    · rintro i σ H' _ ⟨_, _, _, _, _, k, _⟩
      exact SqT.of ((k04.trans k).atT ha)
    · rintro i y σ H7 H8 hi ⟨o5, o7, o8, o9, rfl, k, ⟨kvs, hnm, hkl⟩, ws, hws, hwl⟩ ⟨rfl, hy⟩
      obtain ⟨dd, hdd, hid, htd⟩ := ts.map_get hy
      have k08 := k04.trans k
      have hy8 := htd.mono k08
      have D8 := D4.mono0 k
      obtain ⟨dx8, hi8⟩ := D8.ins
      obtain ⟨kvt, ht1, ht2⟩ := id D8.tab
      have ht2 := ht2 dd.name
      rw [show tbP p dd.name = some (headOf (heads (p.take i) 0).2 dd) from tbOf_at S.names hid (heads_at hid 0)] at ht2
      obtain ⟨p1, q1, vs1, v1, g1, g2, g3, g4, g5, g6⟩ := ht2
      have hvk : vs1.length = dd.params.length := by rw [g5.1, List.length_map]; simp [headOf]
      have hp4 := (S.ok dd hdd).few
      have kt8 := kt.mono k ni0
      have nq : nm ≠ q1 := (ne_kind hnm g3 (by simp))
      have nt1 : nts ≠ nm := Ne.symm hnn
      -- one call
      have call : ∀ (kk : Kd), kk.dp ≤ 1 → ∃ r i, Full t i kk r ∧ r.dp < 200 := fun kk hkk => by
        obtain ⟨i, r, f⟩ := ok.full kk
        obtain ⟨vs, v1, v2, v3⟩ := f.vars ok.small
        have := kt.few v1 fun v hv => (v2 v hv).1
        exact ⟨r, i, f, by omega⟩
      walk_at "rr"
      refine r_selfF rfl hi8 T.cls T.no_table rfl ?_
      walk_at "rr"
      refine r_ix_str hy8 2 rfl ?_
      refine r_dget_s ht1 g1 ?_
      refine r_gTup rfl g2 rfl ?_
      walk_at "rr"
      refine ⟨⟨_, SqL.of g3⟩, ?_⟩
      refine lcW (walk_list (xs := vs1)) (by omega) [nm] (fun j acc H' => ∃ kvs : List (Key × V), H' nm = some (.dK kvs) ∧ kvs.length ≤ 5 * i + j) (fun H9 k9 => SqL.of (k9.at g3 (ni1 (Ne.symm nq)))) (fun D0 H9 _ k9 => ⟨kvs, k9.at hnm ni0, by omega⟩) ?_ ?_
      · rintro j z D0 acc H9 H10 hj hD hl9 k9 hdd9 ⟨kv9, hn9, hl9'⟩ ⟨rfl, hz⟩
        obtain ⟨kk, hkk, hjk, htk⟩ := g5.map_get hz
        have hkd : kk.dp ≤ 1 := (tbP_flat p dd.name _ _ (show tbP p dd.name = some (headOf (heads (p.take i) 0).2 dd) from tbOf_at S.names hid (heads_at hid 0))).2 kk hkk
        obtain ⟨r, i2, f, hr3⟩ := call kk hkd
        have dn : D0 ≠ nm := (ne_of_none hnm hD).symm
        walk_at "rr"
        refine ⟨rfl, ?_⟩
        walk_at "rr"
        refine r_yes rfl ?_
        walk_at "rr"
        refine ⟨d4, z, t, _, kk, r, i2, nm, 5 * i + j, rfl, hnd, kt8.mono k9 (ni1 (Ne.symm hnd)), htk.mono k9, f, hkd, ok, hr3, ⟨kv9, hn9, hl9'⟩, by omega, fun v11 H11 k11 ⟨kv11, hn11, hl11⟩ => ?_⟩
        refine lc_fin hD (by omega) hl9 (k9.trans k11) (k11.at hdd9 (ni1 dn)) fun H12 k12 => ⟨kv11, k12.at hn11 (ni1 (Ne.symm dn)), by omega⟩
      · rintro D0 acc H9 hD hl9 k9 hdd9 ⟨kv9, hn9, hl9'⟩
        have dn : D0 ≠ nm := (ne_of_none hnm hD).symm
        refine ⟨D0, acc, rfl, .inl ⟨SqL.of hdd9, fun l10 H10 k10 n10 e10 => ?_⟩⟩
        have k810 : Kp [nm] H8 H10 := k9.trans (k10.mono (by simp))
        walk_at "rr"
        refine ⟨tyV_l (k810.at hws (ni1 nt1)), ?_⟩
        walk_at "rr"
        refine r_ix_str (hy8.mono k810) 2 rfl ?_
        walk_at "rr"
        have hkd : (headOf (heads (p.take i) 0).2 dd).2.dp ≤ 1 := (tbP_flat p dd.name _ _ (show tbP p dd.name = some (headOf (heads (p.take i) 0).2 dd) from tbOf_at S.names hid (heads_at hid 0))).1
        obtain ⟨r, i2, f, hr3⟩ := call _ hkd
        refine ⟨d4, v1, t, _, _, r, i2, nm, 5 * i + 4, rfl, hnd, kt8.mono k810 (ni1 (Ne.symm hnd)), g6.mono k810, f, hkd, ok, hr3, ⟨kv9, k10.at hn9 ni0, by omega⟩, by omega, fun v11 H11 k11 ⟨kv11, hn11, hl11⟩ => ?_⟩
        refine ⟨by simp, fun p12 H12 k12 n12 e12 => ?_⟩
        have k812 : Kp [nm] H8 H12 := k810.trans (k11.trans (k12.mono (by simp)))
        have hws12 := k812.at hws (ni1 nt1)
        walk_at "rr"
        refine r_append hws12 (by omega) ?_
        have kw : Kp [nts] H12 (upd H12 nts (.lst (ws ++ [.ref p12]))) := Kp.wr (by simp) hws12 rfl
        have e13 : (upd H12 nts (.lst (ws ++ [.ref p12]))) nts = some (.lst (ws ++ [.ref p12])) := upd_same
        generalize upd H12 nts (.lst (ws ++ [.ref p12])) = H13 at kw e13
        walk_at "rr"
        refine ⟨_, _, _, _, rfl, (k.off k812 (by simp [n5])).off kw (by simp [n6']), ⟨kv11, kw.at (k12.at hn11 ni0) (ni1 hnn), by omega⟩, _, e13, by simp; omega⟩
    · rintro σ H7 ⟨o5, o7, o8, o9, rfl, k, _, ws, hws, hwl⟩
      walk_at "rr"
      refine ⟨nts, ws, rfl, .inl ⟨SqL.of hws, fun l8 H8 k8 n8 e8 => ?_⟩⟩
      refine ⟨by simp, fun p9 H9 k9 n9 e9 => ?_⟩
      exact qk p9 _ H9 (k04.trans (k.trans (k8.trans k9))) e9
end
end Tp
set_option Elab.async false
set_option linter.all false
set_option maxRecDepth 100000
set_option maxHeartbeats 4000000
namespace Tp
open PySem PySem.Spec PyProof.Rows L2
section
variable {X : Cx}
/-- text + text, text * 0 or 1 -/
def rAddSS : R2 := fun x y H Q => ∃ i j, x = .str i ∧ y = .str j ∧ i.length + j.length ≤ sizeLine ∧ Q (.str (i ++ j)) H
theorem op_addSS : OpR X (binaryOp .Add) rAddSS := op_add_str
def rMulSI : R2 := fun x y H Q => ∃ (i : Str) (n : Int), x = .str i ∧ y = .int n ∧ ((n = 0 ∧ Q (.str "") H) ∨ (n = 1 ∧ Q (.str i) H))
theorem op_mulSI : OpR X (binaryOp .Mult) rMulSI := by
  intro pins s σ H x y v u Q I rx ry h
  obtain ⟨i, n, rfl, rfl, h⟩ := h
  obtain ⟨t, rfl⟩ := rx
  obtain ⟨t', rfl⟩ := ry
  rcases h with ⟨rfl, q⟩ | ⟨rfl, q⟩
  · exact PySem.P.mul_str_none (by decide) (by decide) ⟨.str "", H, I.tok _, ⟨_, rfl⟩, q⟩
  · refine PySem.P.mul_str (by decide) (fun _ h => by simp at h) (fun _ h => by simp at h) ?_
    rw [if_neg (by decide), if_pos (by simp)]
    exact ⟨.str i, H, I, ⟨_, rfl⟩, q⟩
def rJoinK (K : PySem.W.Frag) : V → List V → Hp → VK → Prop := fun x xs H Q => ∃ a p, ∃ ys : List Str, x = .str a ∧ xs = [.ref p] ∧ (SqL K H p (ys.map V.str) ∨ SqT K H p (ys.map V.str)) ∧ (ys.map (·.length)).sum + ys.length * a.length ≤ 16777216 ∧ Q (.str (Txt.join a ys)) H
theorem mt_joinK : MtR X "str.join" (rJoinK X.K) := mt_join
end
section
variable {K : PySem.W.Frag} {H : Hp} {Q : VK}
theorem r_addSS {i j : Str} (h : i.length + j.length ≤ 1000) (q : Q (.str (i ++ j)) H) : rAddSS (.str i) (.str j) H Q := ⟨i, j, rfl, rfl, Nat.le_of_lt (small1000 h), q⟩
theorem r_ixS {z : Str} {n c : Nat} (hl : z.length ≤ 1000) (hn : z.cps.toList[n]? = some c) (q : Q (.str ⟨#[c]⟩) H) : rIx K (.str z) (.int (n : Int)) H Q :=
  .inr (.inr ⟨z, n, c, rfl, rfl, Nat.le_of_lt (small1000 hl), atI_nat hn, q⟩)
theorem r_setL {l : Addr} {xs : List V} {n : Nat} {v : V} {Q : Hp → Prop} (h : H l = some (.lst xs)) (hn : n < xs.length) (q : ∀ H2, Kp [l] H H2 → H2 l = some (.lst (xs.set n v)) → Q H2) : rSetL (.ref l) (.int (n : Int)) v H Q :=
  ⟨l, xs, n, n, rfl, rfl, h, by unfold ixN; rw [if_pos (by omega), if_pos (by omega)]; simp, q _ (Kp.wr (by simp) h rfl) upd_same⟩
/-- the drawing lots -/
def DrAt (H : Hp) (l : Addr) : Prop := ∃ d0 d1 : Int, H l = some (.lst [.int d0, .int d1]) ∧ 0 ≤ d0 ∧ 0 ≤ d1 ∧ d1 < 2147483647
theorem DrAt.mono {M : List Addr} {H H' : Hp} {l : Addr} (k : Kp M H H') (n : l ∉ M) (h : DrAt H l) : DrAt H' l := by
  obtain ⟨a, b, h1, h2⟩ := h
  exact ⟨a, b, k.at h1 n, h2⟩
end
theorem r_rng1 {ta : TA} {σ : L2.St} {H : Hp} {R : It → Hp → Prop} (h : ta σ H fun vs H1 => ∃ j : Int, vs = [.int j] ∧ -(2 ^ 62) ≤ j ∧ j < 2 ^ 62 ∧ R (Itr 0 j.toNat) H1) : iRng1 ta σ H R := h
theorem walk_rng {n : Nat} : Walk (Itr 0 n) n (fun _ => True) (fun i H x H' => H' = H ∧ x = .int ((i : Nat) : Int)) :=
  walk_range.mono (fun _ _ => trivial) fun i H x H' _ _ y => ⟨y.1, by
    have e : x = .int (0 + ((i : Nat) : Int)) := y.2
    rw [e]
    congr 1
    omega⟩
theorem r_iKeys {td : TE} {σ : L2.St} {H : Hp} {R : It → Hp → Prop} (h : td σ H fun x H1 => ∃ d o, x = .ref d ∧ ((∃ kvs, H1 d = some (.frz o (.dK kvs)) ∧ R (Itk d o kvs) H1) ∨ ∃ kvs, H1 d = some (.frz o (.dT kvs)) ∧ R (Itkt d o kvs) H1)) : iKeys td σ H R := h
theorem r_cut {t u : TS} {D : Ends} {σ : L2.St} {H : Hp} (M : L2.St → Hp → Prop) (h : t ⟨M, D.rt, D.bk, D.ct⟩ σ H) (k : ∀ σ' H', M σ' H' → u D σ' H') : C8.tCut t u D σ H := ⟨M, h, k⟩
def rSlLK (K : PySem.W.Frag) : V → Option Int → Option Int → Hp → VK → Prop := fun x lo hi H Q => ∃ a xs, x = .ref a ∧ SqL K H a xs ∧ ∀ p H2, Kp [] H H2 → H p = none → H2 p = some (.lst (cutV xs lo hi)) → Q (.ref p) H2
theorem sl_listK {X : Cx} : SlR X (rSlLK X.K) := SlR.imp sl_list fun x lo hi H Q h => by
  obtain ⟨a, xs, h1, h2, q⟩ := h
  exact ⟨a, xs, h1, h2, fun p hp => q p _ (Kp.new hp) hp upd_same⟩
theorem cutV_most (xs : List V) : cutV xs none (some (-1)) = xs.take (xs.length - 1) := by
  unfold cutV HT.sIx
  simp
  congr 1
  omega
theorem cutV_last (xs : List V) (h : 1 ≤ xs.length) : cutV xs (some (-1)) none = xs.drop (xs.length - 1) := by
  unfold cutV HT.sIx
  simp
  have e : ((-1 : Int) + (xs.length : Int)).toNat = xs.length - 1 := by omega
  rw [e, List.take_of_length_le (by rw [List.length_drop]; omega)]
theorem r_ixLast {K : PySem.W.Frag} {H : Hp} {Q : VK} {l : Addr} {xs : List V} {y : V} (h : H l = some (.lst xs)) (hx : xs[xs.length - 1]? = some y) (q : Q y H) : rIx K (.ref l) (.int (-1)) H Q := by
  have hl : 1 ≤ xs.length := by
    have := (List.getElem?_eq_some_iff.mp hx).1
    omega
  refine .inl ⟨l, xs, -1, y, rfl, rfl, SqL.of h, ?_, q⟩
  unfold atI ixN
  rw [if_neg (by decide), if_pos (by omega)]
  have e : ((-1 : Int) + (xs.length : Int)).toNat = xs.length - 1 := by omega
  simp only [Option.bind_some, e]
  exact hx
end Tp
set_option Elab.async false
set_option linter.all false
set_option maxRecDepth 100000
set_option maxHeartbeats 4000000
namespace Tp
open PySem PySem.Spec PyProof.Rows L2
/-! ### the names that the law draws -/
abbrev lowL : List Nat := ("abcdefghijklmnopqrstuvwxyz" : Str).cps.toList
def isLow (x : Str) : Prop := ∀ c ∈ x.cps.toList, c ∈ lowL
theorem low_at : ∀ i : Nat, i < 26 → lowL[i]? = some (97 + i) := by
  have h : ∀ i : Fin 26, lowL[i.1]? = some (97 + i.1) := by decide +kernel
  exact fun i hi => h ⟨i, hi⟩
theorem low_len : (("abcdefghijklmnopqrstuvwxyz" : Str)).length = 26 := by decide +kernel
def one (c : Nat) : Str := ⟨#[c]⟩
theorem one_len (c : Nat) : (one c).length = 1 := rfl
theorem one_low {i : Nat} (h : i < 26) : isLow (one (97 + i)) := fun c hc => by
  simp [one] at hc
  subst hc
  exact List.mem_of_getElem? (low_at i h)
theorem app_len (a b : Str) : (a ++ b).length = a.length + b.length := Str.length_append a b
theorem app_cps (a b : Str) : (a ++ b).cps.toList = a.cps.toList ++ b.cps.toList := by
  show (a.cps ++ b.cps).toList = _
  simp
theorem isLow.app {a b : Str} (h : isLow a) (k : isLow b) : isLow (a ++ b) := fun c hc => by
  rw [app_cps] at hc
  rcases List.mem_append.mp hc with hc | hc
  · exact h c hc
  · exact k c hc
theorem low_empty : isLow "" := fun c hc => by
  have : ("" : Str).cps.toList = [] := by decide +kernel
  rw [this] at hc
  cases hc
theorem join_low : ∀ ys : List Str, (∀ y ∈ ys, isLow y ∧ y.length = 1) → isLow (Txt.join "" ys) ∧ (Txt.join "" ys).length ≤ ys.length := by
  intro ys h
  have e : Txt.join "" ys = Str.join "" ys := StrLaws.glued_eq_join _ _
  rw [e]
  have l0 : ("" : Str).length = 0 := by decide +kernel
  refine ⟨?_, ?_⟩
  · clear e
    induction ys with
    | nil => exact low_empty
    | cons y ys ih =>
      cases ys with
      | nil => exact (h y (by simp)).1
      | cons z ys =>
        show isLow (y ++ "" ++ Str.join "" (z :: ys))
        exact ((h y (by simp)).1.app low_empty).app (ih fun x hx => h x (by simp at hx ⊢; rcases hx with hx | hx <;> simp [hx]))
  · have := StrLaws.join_length_le "" ys
    rw [l0] at this
    have h1 : (ys.map (·.length)).sum ≤ ys.length := by
      clear e this
      induction ys with
      | nil => simp
      | cons y ys ih =>
        have := ih fun x hx => h x (by simp [hx])
        have := (h y (by simp)).2
        simp
        omega
    omega
/-- the k-th name -/
def nmPre (S M : Str) (a b k : Nat) : Str := (S ++ one (97 + (a + b * k) % 26)) ++ (if k % 2 = 0 then ("" : Str) else M)
def nmK (S M : Str) (a b k : Nat) : Str := if nmPre S M a b k ∈ keysL then nmPre S M a b k ++ "q" else nmPre S M a b k ++ ""
theorem nmPre_low {S M : Str} {a b k : Nat} (hS : isLow S) (hM : isLow M) : isLow (nmPre S M a b k) := by
  unfold nmPre
  refine (hS.app (one_low (Nat.mod_lt _ (by decide)))).app ?_
  split
  · exact low_empty
  · exact hM
theorem nmPre_len {S M : Str} {a b k : Nat} (hM : M.length ≤ 1) : 1 ≤ (nmPre S M a b k).length ∧ (nmPre S M a b k).length ≤ S.length + 2 := by
  have l0 : ("" : Str).length = 0 := by decide +kernel
  unfold nmPre
  rw [app_len, app_len, one_len]
  split <;> omega
theorem keys_short : ∀ x ∈ keysL, x.length ≤ 4 := by decide +kernel
theorem keys_noq : ∀ x ∈ keysL, x.cps.toList.getLast? ≠ some 113 := by decide +kernel
theorem empty_app (x : Str) : x ++ "" = x := by
  have e : ("" : Str).cps = #[] := by decide +kernel
  obtain ⟨c⟩ := x
  show Str.mk (c ++ ("" : Str).cps) = _
  rw [e, Array.append_empty]
theorem nmK_ok {S M : Str} {a b k : Nat} (hS : isLow S) (hM : isLow M) (lS : S.length ≤ 6) (lM : M.length ≤ 1) : okName (nmK S M a b k) := by
  have h1 := nmPre_len (S := S) (a := a) (b := b) (k := k) lM
  have h2 := nmPre_low (a := a) (b := b) (k := k) hS hM
  unfold nmK
  split
  · rename_i hk
    have h3 := keys_short _ hk
    have lq : ("q" : Str).length = 1 := by decide +kernel
    have cq : ("q" : Str).cps.toList = [113] := by decide +kernel
    refine ⟨by rw [app_len]; omega, by rw [app_len]; omega, fun hm => ?_, ?_⟩
    · refine keys_noq _ hm ?_
      rw [app_cps, cq]
      simp
    · refine h2.app fun c hc => ?_
      rw [cq] at hc
      simp at hc
      subst hc
      decide +kernel
  · rename_i hk
    rw [empty_app]
    exact ⟨h1.1, by omega, hk, h2⟩
def okStep (b : Nat) : Prop := b = 1 ∨ b = 3 ∨ b = 5 ∨ b = 7 ∨ b = 25 ∨ b = 23
theorem nmK_inj {S M : Str} {a b j k : Nat} (hb : okStep b) (hj : j < 8) (hk : k < 8) (e : nmK S M a b j = nmK S M a b k) : j = k := by
  have at_ : ∀ i, (nmK S M a b i).cps.toList[S.cps.toList.length]? = some (97 + (a + b * i) % 26) := fun i => by
    have h : ∀ z : Str, (nmPre S M a b i ++ z).cps.toList[S.cps.toList.length]? = some (97 + (a + b * i) % 26) := fun z => by
      unfold nmPre
      rw [app_cps, app_cps, app_cps, List.append_assoc, List.append_assoc, List.getElem?_append_right (Nat.le_refl _)]
      simp [one]
    unfold nmK
    split <;> exact h _
  have h1 := at_ j
  rw [e, at_ k] at h1
  have h2 : (a + b * k) % 26 = (a + b * j) % 26 := by
    have := Option.some.inj h1
    omega
  rcases hb with rfl | rfl | rfl | rfl | rfl | rfl <;> omega
theorem nms_nodup {S M : Str} {a b : Nat} (hb : okStep b) : ((List.range 8).map (nmK S M a b)).Nodup := by
  refine List.pairwise_map.mpr (List.Pairwise.imp_of_mem (fun {x y} hx hy hne e => hne ?_) List.nodup_range)
  exact nmK_inj hb (List.mem_range.mp hx) (List.mem_range.mp hy) e
end Tp
set_option Elab.async false
set_option linter.all false
set_option maxRecDepth 100000
set_option maxHeartbeats 4000000
set_option pp.maxSteps 500
set_option pp.deepTerms false
namespace Tp
open PySem PySem.Spec PyProof.Rows L2
local macro_rules | `(tactic| walk_at "r") => `(tactic| with_reducible first
  | refine r_seq ?_ | refine r_set ?_ | refine r_ret ?_ | refine r_ifS ?_ | refine r_drop ?_ | refine r_next ?_ | refine r_nx ?_ | refine r_rt ?_
  | refine r_var rfl ?_ | refine r_c ?_ | refine r_op ?_ | refine r_test ?_ | refine r_B ?_ | refine r_exbl ?_ | refine r_exstr ?_ | refine r_exref ?_ | refine r_exint ?_ | refine r_ex2 ?_ | refine r_not ?_ | refine r_and ?_ | refine r_or ?_
  | refine r_andV ?_ | refine r_orV ?_ | refine r_notV ?_ | refine r_ifE ?_ | refine r_chain ?_ | refine r_asg ?_
  | refine r_cb ?_ | refine r_cons ?_ | refine r_nil ?_ | refine r_call ?_ | refine r_par ?_ | refine r_tup ?_ | refine r_lst ?_
  | refine r_lc ?_ | refine r_dget ?_ | refine r_din ?_ | refine r_dnotin ?_ | refine r_dput ?_ | refine r_sl ?_ | refine r_part ?_ | refine r_nopart ?_ | refine r_for ?_ | refine r_iList ?_ | refine r_iTup ?_ | refine r_iStr ?_ | refine r_iKeys ?_ | refine r_rng1 ?_ | refine r_dsetd ?_ | refine r_dnew ?_ | refine r_bm ?_ | refine r_fldaug ?_ | refine r_fldset ?_ | refine r_dz ?_ | refine r_lz ?_ | refine r_gSub ?_ | refine r_dc ?_ | refine r_sc ?_ | refine r_iEnumB ?_ | refine r_iZipB ?_ | refine r_iRevA ?_ | refine r_yes1 ?_ | refine r_gName ?_ | refine r_gCons ?_ | refine r_gNil ?_
  | refine r_I0 ?_ | refine r_eq_str ?_ | refine r_eq_int ?_ | refine r_ne_str ?_ | refine r_ne_int ?_
  | refine r_isi_int_int ?_ | refine r_isi_int_bool ?_ | refine r_isi_str_str ?_ | refine r_isi_int_tup ?_ | refine r_isi_str_tup ?_)
local macro_rules | `(tactic| walk_at "rr") => `(tactic| repeat walk_at "r")
local macro_rules | `(tactic| walk_at "len") => `(tactic| (intro vs H Q E h; repeat (first | (obtain ⟨e, _⟩ := h; rw [e]; rfl) | (obtain ⟨_, h⟩ := h))))
local macro_rules | `(tactic| walk_at "ni") => `(tactic| first | exact ni0 | exact ni1 (by assumption) | exact ni2 (by assumption) (by assumption) | exact ni3 (by assumption) (by assumption) (by assumption))
local macro_rules | `(tactic| walk_at "sub") => `(tactic| first | (intro b hb; cases hb; done) | (intro b hb; exact hb) | (intro b hb; simp at hb ⊢; simp [hb]; done) | (intro b hb; simp at hb ⊢; omega))
local macro_rules | `(tactic| walk_at "kp") => `(tactic| first | assumption | exact Kp.refl _ _ | (refine Kp.step (by assumption) (by walk_at "sub") ?_; walk_at "kp"))
local macro_rules | `(tactic| walk_at "at") => `(tactic| first | assumption | (refine Kp.atT (by assumption) ?_; walk_at "at") | (refine Kp.at (by assumption) ?_ (by walk_at "ni"); walk_at "at"))
local macro_rules | `(tactic| walk_at "td") => `(tactic| first | assumption | exact TD.int _ | exact TD.str _ | exact TDs.nil | (refine TDs.cons ?_ ?_ <;> walk_at "td") | (refine TD.mk (by assumption) ?_; walk_at "td") | (refine TD.mono (by assumption) ?_; walk_at "td") | (refine TDs.mono (by assumption) ?_; walk_at "td"))
local macro_rules | `(tactic| walk_at "b") => `(tactic| first | rfl | decide +kernel | (simp <;> omega) | (simp [*] <;> omega))
local macro_rules | `(tactic| walk_at "if") => `(tactic| first | refine r_yes (by walk_at "b") ?_ | refine r_no (by walk_at "b") ?_)
local macro_rules | `(tactic| walk_at "go") => `(tactic| repeat (first | walk_at "r" | walk_at "if"))
local macro_rules | `(tactic| walk_at "pf") => `(tactic| repeat (fail_if_success (with_reducible refine r_for ?_); walk_at "r"))
local macro_rules | `(tactic| walk_at "pt") => `(tactic| repeat (fail_if_success (with_reducible refine r_ifS ?_); walk_at "r"))
local macro_rules | `(tactic| walk_at "wn") => `(tactic| refine r_no (decide_eq_false (by simp only [Tree.word]; decide +kernel)) ?_)
local macro_rules | `(tactic| walk_at "nx") => `(tactic| (walk_at "wn"; walk_at "rr"))
section
variable {P : Program} {w : World} {K : PySem.W.Frag} {mg : Str → Option Value} {base : Heap}
def sp_law_draws : Sp := fun vs H Q _ => ∃ (a : Addr) (ns : List Int) (k : Nat), vs = [.ref a, .int (k : Int)] ∧ SqL K H a (ns.map V.int) ∧ ∀ l H', Kp [] H H' → H l = none → DrAt H' l → Q (.ref l) H'
theorem sc__law_draws : FnScope ["script", "k", "cell"] ["script", "k"] (defScope s__law_draws) := ⟨rfl, rfl, rfl, by decide +kernel, rfl, by decide +kernel, by decide +kernel⟩
theorem c_law_draws (T : Txt K mg) : Cal P w K mg base 1 "_law_draws" ["script", "k"] (sp_law_draws (K := K)) := by
  obtain ⟨fd, F⟩ := T.F__law_draws
  refine mk_cal F T.g__law_draws (fun _ _ _ _ _ _ us hl => match us, hl with | [_, _], _ => rfl) (mk_ok F sc__law_draws (by walk_at "len") fun cdv A outer s H vs Q E hr h => ?_)
  obtain ⟨a, ns, k, rfl, ha, q⟩ := h
  refine ⟨_, (pss_cons (ps_set (i := 2) sc__law_draws.nd rfl (by first | exact Or.inl rfl | exact Or.inr rfl) (pe_op op_mul pe_int (pv 1))) (pss_cons (ps_if (pt_cmpR op_lt (pv 1) (pe_callB (call_lenKK (K := K) rfl) (by rfl) T.b_len PySem.boot_len (pa_cons (pv 0) pa_nil)) (nomark _)) (pss_one (ps_set (i := 2) sc__law_draws.nd rfl (by first | exact Or.inl rfl | exact Or.inr rfl) (pe_op op_mod (pe_ix (ix_seqK (K := K) rfl) (pv 0) (pv 1) (fun _ _ => rfl)) (pe_op op_mulW (pe_op op_mulW (pe_op op_mulW (pe_op op_mulW (pe_op op_pow pe_int pe_int) (pe_op op_pow pe_int pe_int)) (pe_op op_pow pe_int pe_int)) (pe_op op_pow pe_int pe_int)) (pe_op op_pow pe_int pe_int))))) (pss_one (ps_if (pt_cmpR op_gt (pe_callB (call_lenKK (K := K) rfl) (by rfl) T.b_len PySem.boot_len (pa_cons (pv 0) pa_nil)) pe_int (nomark _)) (pss_one (ps_set (i := 2) sc__law_draws.nd rfl (by first | exact Or.inl rfl | exact Or.inr rfl) (pe_op op_add (pe_op op_mod (pe_ix (ix_seqK (K := K) rfl) (pv 0) (pe_op op_mod (pv 1) (pe_callB (call_lenKK (K := K) rfl) (by rfl) T.b_len PySem.boot_len (pa_cons (pv 0) pa_nil))) (fun _ _ => rfl)) (pe_op op_pow pe_int pe_int)) (pe_op op_mul pe_int (pv 1))))) pss_nil))) (pss_one (ps_ret (pe_lstK (pa_cons (pe_op op_mul (pv 2) (pe_callTy call_int1 (by rfl) T.b_int (by decide +kernel) (pa_cons (pe_cmpR op_ge (pv 2) (pe_op op_pow pe_int pe_int) (nomark _)) pa_nil))) (pa_cons (pe_op op_add pe_int (pe_op op_mod (pe_op op_add (pe_op op_mul (pv 2) pe_int) (pe_op op_mul pe_int (pe_op op_add (pv 1) pe_int))) pe_int)) pa_nil))))))), ?_⟩
  have big : (0 : Int) < 10 ^ Int.toNat 60 * 10 ^ Int.toNat 60 * 10 ^ Int.toNat 60 * 10 ^ Int.toNat 60 * 10 ^ Int.toNat 60 := by decide +kernel
  walk_at "rr"
  refine r_I (.inl ⟨by decide, by decide⟩) ?_
  walk_at "rr"
  refine ⟨_, _, rfl, .inl ⟨_, ha, rfl⟩, ?_⟩
  walk_at "rr"
  rw [List.length_map]
  by_cases hk : k < ns.length
  · refine r_yes (by simp; omega) ?_
    walk_at "rr"
    refine .inl ⟨a, _, k, .int ns[k], rfl, rfl, ha, atI_nat (by rw [List.getElem?_map, List.getElem?_eq_getElem hk]; rfl), ?_⟩
    walk_at "rr"
    refine r_I ⟨by decide, by decide, by decide⟩ ?_
    walk_at "rr"
    refine r_I ⟨by decide, by decide, by decide⟩ ?_
    refine r_I (by unfold CMulW; decide +kernel) ?_
    walk_at "rr"
    refine r_I ⟨by decide, by decide, by decide⟩ ?_
    refine r_I (by unfold CMulW; decide +kernel) ?_
    walk_at "rr"
    refine r_I ⟨by decide, by decide, by decide⟩ ?_
    refine r_I (by unfold CMulW; decide +kernel) ?_
    walk_at "rr"
    refine r_I ⟨by decide, by decide, by decide⟩ ?_
    refine r_I (by unfold CMulW; decide +kernel) ?_
    refine r_I big ?_
    generalize ns[k] % (10 ^ Int.toNat 60 * 10 ^ Int.toNat 60 * 10 ^ Int.toNat 60 * 10 ^ Int.toNat 60 * 10 ^ Int.toNat 60) = c
    walk_at "rr"
    refine r_I ⟨by decide, by decide, by decide⟩ ?_
    walk_at "rr"
    refine .inr ⟨_, rfl, ?_⟩
    refine r_I (.inr (by split <;> decide)) ?_
    walk_at "rr"
    refine r_I (.inr ⟨by decide, by decide⟩) ?_
    walk_at "rr"
    refine r_I (.inl ⟨by decide, by decide⟩) ?_
    walk_at "rr"
    refine r_I (by decide) ?_
    walk_at "rr"
    refine ⟨by simp, fun l H1 k1 n1 e1 => ?_⟩
    refine q l H1 k1 n1 ⟨_, _, e1, ?_, ?_, ?_⟩
    · split
      · rename_i hc
        have hc := of_decide_eq_true hc
        have : (0 : Int) < 10 ^ Int.toNat 18 := by decide +kernel
        rw [Int.mul_one]
        omega
      · simp
    · have := Int.emod_nonneg (c * 69621 + 86028121 * ((k : Int) + 1)) (show (2147483646 : Int) ≠ 0 by decide)
      omega
    · have := Int.emod_lt_of_pos (c * 69621 + 86028121 * ((k : Int) + 1)) (show (0 : Int) < 2147483646 by decide)
      omega
  · refine r_no (by simp; omega) ?_
    walk_at "rr"
    refine ⟨_, _, rfl, .inl ⟨_, ha, rfl⟩, ?_⟩
    walk_at "rr"
    rw [List.length_map]
    by_cases h0 : ns.length = 0
    · refine r_no (decide_eq_false (by omega)) ?_
      walk_at "rr"
      generalize (15485863 : Int) * (k : Int) = c
      walk_at "rr"
      refine r_I ⟨by decide, by decide, by decide⟩ ?_
      walk_at "rr"
      refine .inr ⟨_, rfl, ?_⟩
      refine r_I (.inr (by split <;> decide)) ?_
      walk_at "rr"
      refine r_I (.inr ⟨by decide, by decide⟩) ?_
      walk_at "rr"
      refine r_I (.inl ⟨by decide, by decide⟩) ?_
      walk_at "rr"
      refine r_I (by decide) ?_
      walk_at "rr"
      refine ⟨by simp, fun l H1 k1 n1 e1 => ?_⟩
      refine q l H1 k1 n1 ⟨_, _, e1, ?_, ?_, ?_⟩
      · split
        · rename_i hc
          have hc := of_decide_eq_true hc
          have : (0 : Int) < 10 ^ Int.toNat 18 := by decide +kernel
          rw [Int.mul_one]
          omega
        · simp
      · have := Int.emod_nonneg (c * 69621 + 86028121 * ((k : Int) + 1)) (show (2147483646 : Int) ≠ 0 by decide)
        omega
      · have := Int.emod_lt_of_pos (c * 69621 + 86028121 * ((k : Int) + 1)) (show (0 : Int) < 2147483646 by decide)
        omega
    · refine r_yes (decide_eq_true (by omega)) ?_
      walk_at "rr"
      refine ⟨_, _, rfl, .inl ⟨_, ha, rfl⟩, ?_⟩
      rw [List.length_map]
      refine r_I (show (0 : Int) < (ns.length : Nat) by omega) ?_
      have hm : k % ns.length < ns.length := Nat.mod_lt _ (by omega)
      refine .inl ⟨a, _, ((k % ns.length : Nat) : Int), .int ns[k % ns.length], rfl, by simp, ha, atI_nat (by rw [List.getElem?_map, List.getElem?_eq_getElem hm]; rfl), ?_⟩
      walk_at "rr"
      refine r_I ⟨by decide, by decide, by decide⟩ ?_
      refine r_I (show (0 : Int) < 10 ^ Int.toNat 15 by decide +kernel) ?_
      walk_at "rr"
      refine r_I (.inl ⟨by decide, by decide⟩) ?_
      walk_at "rr"
      generalize ns[k % ns.length] % 10 ^ Int.toNat 15 + (15485863 : Int) * (k : Int) = c
      walk_at "rr"
      refine r_I ⟨by decide, by decide, by decide⟩ ?_
      walk_at "rr"
      refine .inr ⟨_, rfl, ?_⟩
      refine r_I (.inr (by split <;> decide)) ?_
      walk_at "rr"
      refine r_I (.inr ⟨by decide, by decide⟩) ?_
      walk_at "rr"
      refine r_I (.inl ⟨by decide, by decide⟩) ?_
      walk_at "rr"
      refine r_I (by decide) ?_
      walk_at "rr"
      refine ⟨by simp, fun l H1 k1 n1 e1 => ?_⟩
      refine q l H1 k1 n1 ⟨_, _, e1, ?_, ?_, ?_⟩
      · split
        · rename_i hc
          have hc := of_decide_eq_true hc
          have : (0 : Int) < 10 ^ Int.toNat 18 := by decide +kernel
          rw [Int.mul_one]
          omega
        · simp
      · have := Int.emod_nonneg (c * 69621 + 86028121 * ((k : Int) + 1)) (show (2147483646 : Int) ≠ 0 by decide)
        omega
      · have := Int.emod_lt_of_pos (c * 69621 + 86028121 * ((k : Int) + 1)) (show (0 : Int) < 2147483646 by decide)
        omega
end
section
variable {P : Program} {w : World} {K : PySem.W.Frag} {mg : Str → Option Value} {base : Heap}
def sp_law_draw : Sp := fun vs H Q _ => ∃ (l : Addr) (m : Nat), vs = [.ref l, .int (m : Int)] ∧ DrAt H l ∧ 1 ≤ m ∧ m ≤ 1000 ∧ ∀ (n : Nat) H', n < m → Kp [l] H H' → DrAt H' l → Q (.int (n : Int)) H'
theorem emod_nat (i : Int) {m : Nat} (h : 1 ≤ m) : ∃ n : Nat, n < m ∧ i % (m : Int) = (n : Int) := by
  have h1 := Int.emod_nonneg i (show (m : Int) ≠ 0 by omega)
  have h2 := Int.emod_lt_of_pos i (show (0 : Int) < (m : Int) by omega)
  exact ⟨(i % (m : Int)).toNat, by omega, by omega⟩
theorem sc__law_draw : FnScope ["draws", "many", "found", "wide"] ["draws", "many"] (defScope s__law_draw) := ⟨rfl, rfl, rfl, by decide +kernel, rfl, by decide +kernel, by decide +kernel⟩
theorem c_law_draw (T : Txt K mg) : Cal P w K mg base 1 "_law_draw" ["draws", "many"] sp_law_draw := by
  obtain ⟨fd, F⟩ := T.F__law_draw
  refine mk_cal F T.g__law_draw (fun _ _ _ _ _ _ us hl => match us, hl with | [_, _], _ => rfl) (mk_ok F sc__law_draw (by walk_at "len") fun cdv A outer s H vs Q E hr h => ?_)
  obtain ⟨l, m, rfl, ⟨d0, d1, hl, h0, h1, h2⟩, m1, m2, q⟩ := h
  refine ⟨_, (pss_cons (ps_if (pt_cmpR op_gt (pe_ix (ix_seqK (K := K) rfl) (pv 0) pe_int (fun _ _ => rfl)) pe_int (nomark _)) (pss_cons (ps_set (i := 2) sc__law_draw.nd rfl (by first | exact Or.inl rfl | exact Or.inr rfl) (pe_op op_mod (pe_ix (ix_seqK (K := K) rfl) (pv 0) pe_int (fun _ _ => rfl)) (pv 1))) (pss_cons (ps_asg (pe_op op_fdiv (pe_ix (ix_seqK (K := K) rfl) (pv 0) pe_int (fun _ _ => rfl)) (pv 1)) (pg_sub (pv 0) pe_int set_list)) (pss_one (ps_ret (pv 2))))) pss_nil) (pss_cons (ps_set (i := 2) sc__law_draw.nd rfl (by first | exact Or.inl rfl | exact Or.inr rfl) pe_int) (pss_cons (ps_set (i := 3) sc__law_draw.nd rfl (by first | exact Or.inl rfl | exact Or.inr rfl) pe_int) (pss_cons (ps_while PassesOwn.never (pt_cmpR op_lt (pv 3) (pv 1) (nomark _)) (pss_cons (ps_asg (pe_op op_mod (pe_op op_mul (pe_ix (ix_seqK (K := K) rfl) (pv 0) pe_int (fun _ _ => rfl)) pe_int) pe_int) (pg_sub (pv 0) pe_int set_list)) (pss_cons (ps_set (i := 2) sc__law_draw.nd rfl (by first | exact Or.inl rfl | exact Or.inr rfl) (pe_op op_add (pe_op op_mul (pv 2) pe_int) (pe_op op_fdiv (pe_op op_mod (pe_op op_mul (pe_ix (ix_seqK (K := K) rfl) (pv 0) pe_int (fun _ _ => rfl)) (pe_op op_add (pe_op op_fdiv (pe_ix (ix_seqK (K := K) rfl) (pv 0) pe_int (fun _ _ => rfl)) pe_int) pe_int)) pe_int) pe_int))) (pss_one (ps_set (i := 3) sc__law_draw.nd rfl (by first | exact Or.inl rfl | exact Or.inr rfl) (pe_op op_mul (pv 3) pe_int)))))) (pss_one (ps_ret (pe_op op_mod (pv 2) (pv 1)))))))), ?_⟩
  walk_at "rr"
  refine r_ixL hl 0 rfl ?_
  walk_at "rr"
  by_cases hd : 0 < d0
  · refine r_yes (decide_eq_true (by omega)) ?_
    walk_at "rr"
    refine r_ixL hl 0 rfl ?_
    walk_at "rr"
    refine r_I (show (0 : Int) < (m : Int) by omega) ?_
    obtain ⟨n, hn, en⟩ := emod_nat d0 m1
    rw [en]
    walk_at "rr"
    refine r_ixL hl 0 rfl ?_
    walk_at "rr"
    refine r_I ⟨by omega, by omega⟩ ?_
    walk_at "rr"
    refine r_setL (n := 0) hl (by simp) fun H1 k1 e1 => ?_
    walk_at "rr"
    exact q n H1 hn k1 ⟨_, _, e1, Int.ediv_nonneg h0 (by omega), h1, h2⟩
  · refine r_no (decide_eq_false (by omega)) ?_
    walk_at "rr"
    refine whileM (fun c σ H' => (c = 1 ∧ σ = [some (.ref l), some (.int (m : Int)), some (.int 0), some (.int 1)] ∧ H' = H) ∨ (c = 0 ∧ ∃ f : Int, σ = [some (.ref l), some (.int (m : Int)), some (.int f), some (.int 268435456)] ∧ Kp [l] H H' ∧ DrAt H' l)) ⟨1, .inl ⟨rfl, rfl, rfl⟩⟩ ?_
    rintro c σ H' (⟨rfl, rfl, rfl⟩ | ⟨rfl, f, rfl, k, dr⟩)
    · walk_at "rr"
      by_cases hm : 1 < m
      · refine r_yes (decide_eq_true (by omega)) ?_
        refine whN ?_
        walk_at "rr"
        refine r_ixL hl 1 rfl ?_
        walk_at "rr"
        refine r_I (.inr ⟨by decide, by decide⟩) ?_
        walk_at "rr"
        refine r_I (by decide) ?_
        have e1 := Int.emod_nonneg (d1 * 69621) (show (2147483647 : Int) ≠ 0 by decide)
        have e2 := Int.emod_lt_of_pos (d1 * 69621) (show (0 : Int) < 2147483647 by decide)
        generalize d1 * 69621 % 2147483647 = x at e1 e2
        walk_at "rr"
        refine r_setL (n := 1) hl (by simp) fun H1 k1 hl1 => ?_
        walk_at "rr"
        refine r_I (.inl ⟨by decide, by decide⟩) ?_
        walk_at "rr"
        refine r_ixL hl1 1 rfl ?_
        walk_at "rr"
        refine r_ixL hl1 1 rfl ?_
        walk_at "rr"
        refine r_I ⟨by decide, by decide⟩ ?_
        walk_at "rr"
        refine r_I (.inl ⟨by omega, by omega⟩) ?_
        walk_at "rr"
        refine r_I (by decide) ?_
        walk_at "rr"
        refine r_I ⟨by decide, by decide⟩ ?_
        walk_at "rr"
        refine r_I (.inl ⟨by decide, by decide⟩) ?_
        walk_at "rr"
        exact ⟨0, by decide, .inr ⟨rfl, _, rfl, k1, _, _, hl1, h0, e1, e2⟩⟩
      · refine r_no (decide_eq_false (by omega)) ?_
        walk_at "rr"
        refine r_I (show (0 : Int) < (m : Int) by omega) ?_
        obtain ⟨n, hn, en⟩ := emod_nat 0 m1
        rw [en]
        walk_at "rr"
        exact q n _ hn (Kp.refl _ _) ⟨_, _, hl, h0, h1, h2⟩
    · walk_at "rr"
      refine r_no (decide_eq_false (by omega)) ?_
      walk_at "rr"
      refine r_I (show (0 : Int) < (m : Int) by omega) ?_
      obtain ⟨n, hn, en⟩ := emod_nat f m1
      rw [en]
      walk_at "rr"
      exact q n _ hn k dr
def keysK : List Str := ["let", "if", "then", "else", "case", "of", "div", "mod", "and", "or"]
def sp_law_keys : Sp := fun vs H Q _ => vs = [] ∧ ∀ l H', Kp [] H H' → H l = none → H' l = some (.lst (keysK.map V.str)) → Q (.ref l) H'
theorem sc__law_keys : FnScope [] [] (defScope s__law_keys) := ⟨rfl, rfl, rfl, by decide +kernel, rfl, by decide +kernel, by decide +kernel⟩
theorem c_law_keys (T : Txt K mg) : Cal P w K mg base 1 "_law_keys" [] sp_law_keys := by
  obtain ⟨fd, F⟩ := T.F__law_keys
  refine mk_cal F T.g__law_keys (fun _ _ _ _ _ _ us hl => match us, hl with | [], _ => rfl) (mk_ok F sc__law_keys (fun vs H Q E h => by rw [h.1]; rfl) fun cdv A outer s H vs Q E hr h => ?_)
  obtain ⟨rfl, q⟩ := h
  refine ⟨_, (pss_one (ps_ret (pe_lstK (pa_cons pe_str (pa_cons pe_str (pa_cons pe_str (pa_cons pe_str (pa_cons pe_str (pa_cons pe_str (pa_cons pe_str (pa_cons pe_str (pa_cons pe_str (pa_cons pe_str pa_nil))))))))))))), ?_⟩
  walk_at "rr"
  exact ⟨by simp, fun l H1 k1 n1 e1 => q l H1 k1 n1 e1⟩
/-- the way: places, fuel, names, heads, wrong -/
def WyAt (H : Hp) (l : Addr) (f : Int) (nl hl : Addr) : Prop := ∃ (a s : Int) (wr : Nat), H l = some (.lst [.int a, .int s, .int f, .ref nl, .ref hl, .int (wr : Int)]) ∧ wr ≤ 1000
theorem WyAt.mono {M : List Addr} {H H' : Hp} {l nl hl : Addr} {f : Int} (k : Kp M H H') (n : l ∉ M) (h : WyAt H l f nl hl) : WyAt H' l f nl hl := by
  obtain ⟨a, b, c, h1, h2⟩ := h
  exact ⟨a, b, c, k.at h1 n, h2⟩
def sp_law_place : Sp := fun vs H Q _ => ∃ (l nl hl : Addr) (f : Int), vs = [.ref l] ∧ WyAt H l f nl hl ∧ ∀ (p : Pl) v H', Kp [l] H H' → WyAt H' l f nl hl → okPl p → TD H' v (pl p) → Q v H'
theorem sc__law_place : FnScope ["way"] ["way"] (defScope s__law_place) := ⟨rfl, rfl, rfl, by decide +kernel, rfl, by decide +kernel, by decide +kernel⟩
theorem c_law_place (T : Txt K mg) : Cal P w K mg base 1 "_law_place" ["way"] sp_law_place := by
  obtain ⟨fd, F⟩ := T.F__law_place
  refine mk_cal F T.g__law_place (fun _ _ _ _ _ _ us hl => match us, hl with | [_], _ => rfl) (mk_ok F sc__law_place (by walk_at "len") fun cdv A outer s H vs Q E hr h => ?_)
  obtain ⟨l, nl, hl, f, rfl, ⟨a, b, c, h1, h2⟩, q⟩ := h
  refine ⟨_, (pss_cons (ps_asg (pe_op op_add (pe_ix (ix_seqK (K := K) rfl) (pv 0) pe_int (fun _ _ => rfl)) (pe_ix (ix_seqK (K := K) rfl) (pv 0) pe_int (fun _ _ => rfl))) (pg_sub (pv 0) pe_int set_list)) (pss_one (ps_ret (pe_tupK (pa_cons (pe_op op_mod (pe_op op_fdiv (pe_ix (ix_seqK (K := K) rfl) (pv 0) pe_int (fun _ _ => rfl)) pe_int) pe_int) (pa_cons (pe_op op_mod (pe_ix (ix_seqK (K := K) rfl) (pv 0) pe_int (fun _ _ => rfl)) pe_int) pa_nil)))))), ?_⟩
  walk_at "rr"
  refine r_ixL h1 0 rfl ?_
  walk_at "rr"
  refine r_ixL h1 1 rfl ?_
  walk_at "rr"
  refine r_setL (n := 0) h1 (by simp) fun H1 k1 e1 => ?_
  walk_at "rr"
  refine r_ixL e1 0 rfl ?_
  walk_at "rr"
  refine r_I ⟨by decide, by decide⟩ ?_
  walk_at "rr"
  refine r_I (by decide) ?_
  walk_at "rr"
  refine r_ixL e1 0 rfl ?_
  walk_at "rr"
  refine r_I (by decide) ?_
  walk_at "rr"
  refine ⟨by simp, fun p H2 k2 n2 e2 => ?_⟩
  have a1 := Int.emod_nonneg ((a + b) / 60) (show (10000 : Int) ≠ 0 by decide)
  have a2 := Int.emod_lt_of_pos ((a + b) / 60) (show (0 : Int) < 10000 by decide)
  have a3 := Int.emod_nonneg (a + b) (show (60 : Int) ≠ 0 by decide)
  have a4 := Int.emod_lt_of_pos (a + b) (show (0 : Int) < 60 by decide)
  have w1 : WyAt H1 l f nl hl := ⟨_, b, c, e1, h2⟩
  exact q ((a + b) / 60 % 10000, (a + b) % 60) _ H2 (k1.trans (k2.mono (by simp))) (w1.mono k2 ni0) ⟨a1, by simp; omega, a3, by simp; omega⟩ (TD.mk e2 (.cons (.int _) (.cons (.int _) .nil)))
end
section
variable {P : Program} {w : World} {K : PySem.W.Frag} {mg : Str → Option Value} {base : Heap}
def sp_law_names : Sp := fun vs H Q _ => ∃ (l : Addr), vs = [.ref l, .int 8] ∧ DrAt H l ∧ ∀ a (ns : List Str) H', Kp [l] H H' → H a = none → DrAt H' l → H' a = some (.lst (ns.map V.str)) → ns.length = 8 → (∀ x ∈ ns, okName x) → ns.Nodup → Q (.ref a) H'
theorem sc__law_names : FnScope ["draws", "many", "letters", "stem", "k", "first", "step", "more", "names", "name"] ["draws", "many"] (defScope s__law_names) := ⟨rfl, rfl, rfl, by decide +kernel, rfl, by decide +kernel, by decide +kernel⟩
theorem c_law_names (T : Txt K mg) (C__law_draw : Cal P w K mg base 1 "_law_draw" ["draws", "many"] sp_law_draw) (C__law_keys : Cal P w K mg base 1 "_law_keys" [] sp_law_keys) : Cal P w K mg base 2 "_law_names" ["draws", "many"] sp_law_names := by
  obtain ⟨fd, F⟩ := T.F__law_names
  refine mk_cal F T.g__law_names (fun _ _ _ _ _ _ us hl => match us, hl with | [_, _], _ => rfl) (mk_ok F sc__law_names (by walk_at "len") fun cdv A outer s H vs Q E hr h => ?_)
  obtain ⟨l, rfl, dr, q⟩ := h
  refine ⟨_, (pss_cons (ps_set (i := 2) sc__law_names.nd rfl (by first | exact Or.inl rfl | exact Or.inr rfl) pe_str) (pss_cons (ps_set (i := 3) sc__law_names.nd rfl (by first | exact Or.inl rfl | exact Or.inr rfl) (pe_bm PySem.F.plainAttrs_str PySem.F.slot_str_join PySem.F.type_str_join mt_joinK pe_str (pa_cons (pe_lc (own := [("k", 4)]) (g := (gName 4)) (tt := tYes) rfl sc__law_names.nd (pi_range1 rfl T.b_range (pa_cons (pe_ix (ix_seqK (K := K) rfl) (pe_lstK (pa_cons pe_int (pa_cons pe_int (pa_cons pe_int (pa_cons pe_int pa_nil))))) (pe_cal C__law_draw hr (pa_cons (pv 0) (pa_cons pe_int pa_nil))) (fun _ _ => rfl)) pa_nil)) (blkOk_by (own := [("k", 4)]) (N := ["draws", "many", "letters", "stem", "k", "first", "step", "more", "names", "name"]) (sc := defScope s__law_names) (by decide +kernel)) (fun _ _ _ _ _ => (pg_name (i := 4) sc__law_names.nd rfl (by first | exact Or.inl rfl | exact Or.inr rfl))) (fun _ _ _ _ _ => pts_nil) (fun _ _ _ _ _ => (pe_ix (ix_seqK (K := K) rfl) (pv 2) (pe_cal C__law_draw hr (pa_cons (pv 0) (pa_cons pe_int pa_nil))) (fun _ _ => rfl)))) pa_nil))) (pss_cons (ps_set (i := 5) sc__law_names.nd rfl (by first | exact Or.inl rfl | exact Or.inr rfl) (pe_cal C__law_draw hr (pa_cons (pv 0) (pa_cons pe_int pa_nil)))) (pss_cons (ps_set (i := 6) sc__law_names.nd rfl (by first | exact Or.inl rfl | exact Or.inr rfl) (pe_ix (ix_seqK (K := K) rfl) (pe_lstK (pa_cons pe_int (pa_cons pe_int (pa_cons pe_int (pa_cons pe_int (pa_cons pe_int (pa_cons pe_int pa_nil))))))) (pe_cal C__law_draw hr (pa_cons (pv 0) (pa_cons pe_int pa_nil))) (fun _ _ => rfl))) (pss_cons (ps_set (i := 7) sc__law_names.nd rfl (by first | exact Or.inl rfl | exact Or.inr rfl) (pe_ix (ix_seqK (K := K) rfl) (pe_lstK (pa_cons pe_str (pa_cons pe_str (pa_cons (pe_ix (ix_seqK (K := K) rfl) (pv 2) (pv 5) (fun _ _ => rfl)) pa_nil)))) (pe_cal C__law_draw hr (pa_cons (pv 0) (pa_cons pe_int pa_nil))) (fun _ _ => rfl))) (pss_cons (ps_set (i := 8) sc__law_names.nd rfl (by first | exact Or.inl rfl | exact Or.inr rfl) (pe_lstK pa_nil)) (pss_cons (ps_for PassesOwn.never rfl (pi_range1 rfl T.b_range (pa_cons (pv 1) pa_nil)) (pg_name (i := 4) sc__law_names.nd rfl (by first | exact Or.inl rfl | exact Or.inr rfl)) (pss_cons (ps_set (i := 9) sc__law_names.nd rfl (by first | exact Or.inl rfl | exact Or.inr rfl) (pe_op op_addSS (pe_op op_addSS (pv 3) (pe_ix (ix_seqK (K := K) rfl) (pv 2) (pe_op op_mod (pe_op op_add (pv 5) (pe_op op_mul (pv 6) (pv 4))) pe_int) (fun _ _ => rfl))) (pe_op op_mulSI (pv 7) (pe_op op_mod (pv 4) pe_int)))) (pss_one (ps_expr (pe_bm PySem.F.plainAttrs_list PySem.F.slot_list_append PySem.F.type_list_append mt_append (pv 8) (pa_cons (pe_op op_addSS (pv 9) (pe_op op_mulSI pe_str (pe_callTy call_int1 (by rfl) T.b_int (by decide +kernel) (pa_cons (pe_cmpR (op_in_seqK (K := K) rfl) (pv 9) (pe_cal0 C__law_keys hr) rfl) pa_nil)))) pa_nil)))))) (pss_one (ps_ret (pv 8)))))))))), ?_⟩
  walk_at "rr"
  refine ⟨rfl, ?_⟩
  walk_at "rr"
  refine ⟨by simp, fun p1 H1 k1 n1 e1 => ?_⟩
  have dl : ∀ {H : Hp} {p : Addr}, DrAt H l → H p = none → l ≠ p := fun ⟨_, _, g, _⟩ n => ne_of_none g n
  have lp1 := dl dr n1
  have dr1 := dr.mono k1 ni0
  walk_at "rr"
  refine ⟨l, 4, rfl, dr1, by decide, by decide, fun n H2 hn k2 dr2 => ?_⟩
  obtain ⟨m, hm, hx⟩ : ∃ m : Nat, m ≤ 6 ∧ ([V.int 0, V.int 1, V.int 2, V.int 6] : List V)[n]? = some (.int (m : Int)) := by
    match n, hn with
    | 0, _ => exact ⟨0, by decide, rfl⟩
    | 1, _ => exact ⟨1, by decide, rfl⟩
    | 2, _ => exact ⟨2, by decide, rfl⟩
    | 3, _ => exact ⟨6, by decide, rfl⟩
  refine r_ixL (k2.at e1 (ni1 (Ne.symm lp1))) n hx ?_
  walk_at "rr"
  refine ⟨_, rfl, by omega, by omega, ?_⟩
  rw [Int.toNat_natCast]
  have k02 : Kp [l] H H2 := (k1.mono (by simp)).trans k2
  refine lcW (walk_rng (n := m)) (by omega) [l] (fun i acc H' => DrAt H' l ∧ ∃ ys : List Str, acc = ys.map V.str ∧ ys.length = i ∧ ∀ y ∈ ys, isLow y ∧ y.length = 1) (fun _ _ => trivial) (fun D0 H3 _ k3 => ⟨dr2.mono k3 ni0, [], rfl, rfl, by simp⟩) ?_ ?_
  · rintro i z D0 acc H3 H4 hi hD hl3 k3 hdd3 ⟨dr3, ys, rfl, hyl, hys⟩ ⟨rfl, rfl⟩
    have ld := dl dr2 hD
    walk_at "rr"
    refine ⟨rfl, ?_⟩
    walk_at "rr"
    refine r_yes rfl ?_
    walk_at "rr"
    refine ⟨l, 26, rfl, dr3, by decide, by decide, fun c H5 hc k5 dr5 => ?_⟩
    refine r_ixS (by rw [low_len]; omega) (low_at c hc) ?_
    refine lc_fin hD (by omega) hl3 (k3.trans k5) (k5.at hdd3 (ni1 (Ne.symm ld))) fun H6 k6 => ⟨dr5.mono k6 (ni1 ld), ys ++ [one (97 + c)], by rw [List.map_append]; rfl, by simp [hyl], fun y hy => ?_⟩
    rcases List.mem_append.mp hy with hy | hy
    · exact hys y hy
    · rw [List.mem_singleton.mp hy]
      exact ⟨one_low hc, rfl⟩
  · rintro D0 acc H3 hD hl3 k3 hdd3 ⟨dr3, ys, rfl, hyl, hys⟩
    obtain ⟨jl, jn⟩ := join_low ys hys
    have hsum : (ys.map (·.length)).sum ≤ 1000 := by
      have : ∀ zs : List Str, (∀ y ∈ zs, isLow y ∧ y.length = 1) → (zs.map (·.length)).sum = zs.length := by
        intro zs
        induction zs with
        | nil => simp
        | cons z zs ih =>
          intro h
          have h1 := ih fun x hx => h x (by simp [hx])
          have h2 := (h z (by simp)).2
          simp [h1, h2]
          omega
      rw [this ys hys]
      omega
    walk_at "rr"
    refine ⟨"", D0, ys, rfl, rfl, .inl (SqL.of hdd3), ?_, ?_⟩
    · have l0 : ("" : Str).length = 0 := by decide +kernel
      rw [l0]
      omega
    generalize Txt.join "" ys = S at jl jn
    have k03 := k02.trans k3
    walk_at "rr"
    refine ⟨l, 26, rfl, dr3, by decide, by decide, fun a H4 ha k4 dr4 => ?_⟩
    walk_at "rr"
    refine ⟨by simp, fun p5 H5 k5 n5 e5 => ?_⟩
    have lp5 := dl dr4 n5
    walk_at "rr"
    refine ⟨l, 6, rfl, dr4.mono k5 ni0, by decide, by decide, fun n6 H6 hn6 k6 dr6 => ?_⟩
    obtain ⟨b, hb, hxb⟩ : ∃ b : Nat, okStep b ∧ ([V.int 1, V.int 3, V.int 5, V.int 7, V.int 25, V.int 23] : List V)[n6]? = some (.int (b : Int)) := by
      match n6, hn6 with
      | 0, _ => exact ⟨1, by simp [okStep], rfl⟩
      | 1, _ => exact ⟨3, by simp [okStep], rfl⟩
      | 2, _ => exact ⟨5, by simp [okStep], rfl⟩
      | 3, _ => exact ⟨7, by simp [okStep], rfl⟩
      | 4, _ => exact ⟨25, by simp [okStep], rfl⟩
      | 5, _ => exact ⟨23, by simp [okStep], rfl⟩
    refine r_ixL (k6.at e5 (ni1 (Ne.symm lp5))) n6 hxb ?_
    walk_at "rr"
    refine r_ixS (by rw [low_len]; omega) (low_at a ha) ?_
    refine ⟨by simp, fun p7 H7 k7 n7 e7 => ?_⟩
    have lp7 := dl dr6 n7
    walk_at "rr"
    refine ⟨l, 3, rfl, dr6.mono k7 ni0, by decide, by decide, fun n8 H8 hn8 k8 dr8 => ?_⟩
    obtain ⟨M, lM, hM, hxM⟩ : ∃ M : Str, M.length ≤ 1 ∧ isLow M ∧ ([V.str "", V.str "z", V.str ⟨#[97 + a]⟩] : List V)[n8]? = some (.str M) := by
      match n8, hn8 with
      | 0, _ => exact ⟨"", by decide +kernel, low_empty, rfl⟩
      | 1, _ => exact ⟨"z", by decide +kernel, by unfold isLow; decide +kernel, rfl⟩
      | 2, _ => exact ⟨one (97 + a), by simp [one_len], one_low ha, rfl⟩
    refine r_ixL (k8.at e7 (ni1 (Ne.symm lp7))) n8 hxM ?_
    walk_at "rr"
    refine ⟨by simp, fun p9 H9 k9 n9 e9 => ?_⟩
    have lp9 := dl dr8 n9
    have k08 : Kp [l] H H8 := k03.trans (k4.trans ((k5.mono (by simp)).trans (k6.trans ((k7.mono (by simp)).trans k8))))
    have np9 : H p9 = none := k08.free n9
    walk_at "rr"
    refine ⟨_, rfl, by decide, by decide, ?_⟩
    refine forW (walk_rng (n := 8)) (fun i σ H' => ∃ o4 o9, σ = [some (.ref l), some (.int 8), some (.str "abcdefghijklmnopqrstuvwxyz"), some (.str S), o4, some (.int (a : Int)), some (.int (b : Int)), some (.str M), some (.ref p9), o9] ∧ Kp [p9] H9 H' ∧ H' p9 = some (.lst (((List.range i).map (nmK S M a b)).map V.str)))
      ⟨none, none, rfl, Kp.refl _ _, e9⟩ (fun _ _ _ _ _ => trivial) ?_ ?_
    · rintro i z σ H10 H11 hi ⟨o4, o9, rfl, k10, e10⟩ ⟨rfl, rfl⟩
      walk_at "rr"
      have hlen : S.length ≤ 6 := by omega
      refine r_I (.inr ⟨by omega, by omega⟩) ?_
      walk_at "rr"
      refine r_I (by decide) ?_
      walk_at "rr"
      have ec : ((a : Int) + (b : Int) * (i : Int)) % 26 = (((a + b * i) % 26 : Nat) : Int) := by simp
      rw [ec]
      refine r_ixS (by rw [low_len]; omega) (low_at _ (Nat.mod_lt _ (by decide))) ?_
      refine r_addSS (by have : (Str.mk #[97 + (a + b * i) % 26]).length = 1 := rfl; omega) ?_
      walk_at "rr"
      refine r_I (by decide) ?_
      have pre : ∀ y : Str, y = (if i % 2 = 0 then ("" : Str) else M) → y.length ≤ 1 ∧ (S ++ Str.mk #[97 + (a + b * i) % 26]) ++ y = nmPre S M a b i := fun y hy => by
        rw [hy]
        refine ⟨?_, rfl⟩
        split
        · decide +kernel
        · exact lM
      have fin : ∀ y : Str, y = (if i % 2 = 0 then ("" : Str) else M) → ∀ Q2 : VK, Q2 (.str (nmPre S M a b i)) H11 → rAddSS (.str (S ++ Str.mk #[97 + (a + b * i) % 26])) (.str y) H11 Q2 := fun y hy Q2 h2 => by
        obtain ⟨y1, y2⟩ := pre y hy
        refine r_addSS ?_ (by rw [y2]; exact h2)
        rw [app_len]
        have : (Str.mk #[97 + (a + b * i) % 26]).length = 1 := rfl
        omega
      have npl := (nmPre_len (S := S) (a := a) (b := b) (k := i) lM).2
      refine ⟨M, _, rfl, rfl, ?_⟩
      by_cases hi2 : i % 2 = 0
      · refine .inl ⟨by omega, ?_⟩
        refine fin _ (by rw [if_pos hi2]) _ ?_
        walk_at "rr"
        refine ⟨tyV_l e10, ?_⟩
        walk_at "rr"
        refine ⟨rfl, fun l12 H12 k12 n12 e12 => ?_⟩
        refine r_in_l e12 ?_
        walk_at "rr"
        refine .inr ⟨_, rfl, ?_⟩
        refine ⟨"q", _, rfl, rfl, ?_⟩
        have e10' := k12.at e10 ni0
        have lq : ("q" : Str).length = 1 := by decide +kernel
        have l0 : ("" : Str).length = 0 := by decide +kernel
        have step : ∀ H13, Kp [p9] H9 H13 → H13 p9 = some (.lst (((List.range i).map (nmK S M a b)).map V.str ++ [V.str (nmK S M a b i)])) → H13 p9 = some (.lst (((List.range (i + 1)).map (nmK S M a b)).map V.str)) := fun H13 _ h => by
          rw [List.range_succ, List.map_append, List.map_append]
          exact h
        by_cases hin : nmPre S M a b i ∈ keysK
        · have hin' : nmPre S M a b i ∈ keysL := hin
          refine .inr ⟨by simp [hin], ?_⟩
          refine r_addSS (by omega) ?_
          walk_at "rr"
          refine r_append e10' (by simp; omega) ?_
          walk_at "rr"
          have kw : Kp [p9] H9 (upd H12 p9 (.lst (((List.range i).map (nmK S M a b)).map V.str ++ [V.str (nmPre S M a b i ++ "q")]))) := k10.trans ((k12.mono (by simp)).trans (Kp.wr (by simp) e10' rfl))
          refine ⟨_, _, rfl, kw, step _ kw ?_⟩
          rw [show nmK S M a b i = nmPre S M a b i ++ "q" from by unfold nmK; rw [if_pos hin']]
          exact upd_same
        · have hin' : ¬ nmPre S M a b i ∈ keysL := hin
          refine .inl ⟨by simp [hin], ?_⟩
          refine r_addSS (by omega) ?_
          walk_at "rr"
          refine r_append e10' (by simp; omega) ?_
          walk_at "rr"
          have kw : Kp [p9] H9 (upd H12 p9 (.lst (((List.range i).map (nmK S M a b)).map V.str ++ [V.str (nmPre S M a b i ++ "")]))) := k10.trans ((k12.mono (by simp)).trans (Kp.wr (by simp) e10' rfl))
          refine ⟨_, _, rfl, kw, step _ kw ?_⟩
          rw [show nmK S M a b i = nmPre S M a b i ++ "" from by unfold nmK; rw [if_neg hin']]
          exact upd_same
      · refine .inr ⟨by omega, ?_⟩
        refine fin _ (by rw [if_neg hi2]) _ ?_
        walk_at "rr"
        refine ⟨tyV_l e10, ?_⟩
        walk_at "rr"
        refine ⟨rfl, fun l12 H12 k12 n12 e12 => ?_⟩
        refine r_in_l e12 ?_
        walk_at "rr"
        refine .inr ⟨_, rfl, ?_⟩
        refine ⟨"q", _, rfl, rfl, ?_⟩
        have e10' := k12.at e10 ni0
        have lq : ("q" : Str).length = 1 := by decide +kernel
        have l0 : ("" : Str).length = 0 := by decide +kernel
        have step : ∀ H13, Kp [p9] H9 H13 → H13 p9 = some (.lst (((List.range i).map (nmK S M a b)).map V.str ++ [V.str (nmK S M a b i)])) → H13 p9 = some (.lst (((List.range (i + 1)).map (nmK S M a b)).map V.str)) := fun H13 _ h => by
          rw [List.range_succ, List.map_append, List.map_append]
          exact h
        by_cases hin : nmPre S M a b i ∈ keysK
        · have hin' : nmPre S M a b i ∈ keysL := hin
          refine .inr ⟨by simp [hin], ?_⟩
          refine r_addSS (by omega) ?_
          walk_at "rr"
          refine r_append e10' (by simp; omega) ?_
          walk_at "rr"
          have kw : Kp [p9] H9 (upd H12 p9 (.lst (((List.range i).map (nmK S M a b)).map V.str ++ [V.str (nmPre S M a b i ++ "q")]))) := k10.trans ((k12.mono (by simp)).trans (Kp.wr (by simp) e10' rfl))
          refine ⟨_, _, rfl, kw, step _ kw ?_⟩
          rw [show nmK S M a b i = nmPre S M a b i ++ "q" from by unfold nmK; rw [if_pos hin']]
          exact upd_same
        · have hin' : ¬ nmPre S M a b i ∈ keysL := hin
          refine .inl ⟨by simp [hin], ?_⟩
          refine r_addSS (by omega) ?_
          walk_at "rr"
          refine r_append e10' (by simp; omega) ?_
          walk_at "rr"
          have kw : Kp [p9] H9 (upd H12 p9 (.lst (((List.range i).map (nmK S M a b)).map V.str ++ [V.str (nmPre S M a b i ++ "")]))) := k10.trans ((k12.mono (by simp)).trans (Kp.wr (by simp) e10' rfl))
          refine ⟨_, _, rfl, kw, step _ kw ?_⟩
          rw [show nmK S M a b i = nmPre S M a b i ++ "" from by unfold nmK; rw [if_neg hin']]
          exact upd_same
    · rintro σ H10 ⟨o4, o9, rfl, k10, e10⟩
      walk_at "rr"
      refine q p9 ((List.range 8).map (nmK S M a b)) H10 (((k08.trans (k9.mono (by simp))).fresh np9 k10)) np9 ((dr8.mono k9 ni0).mono k10 (ni1 lp9)) e10 (by simp) (fun x hx => ?_) (nms_nodup hb)
      obtain ⟨j, _, rfl⟩ := List.mem_map.mp hx
      exact nmK_ok jl hM (by omega) lM
end
section
variable {P : Program} {w : World} {K : PySem.W.Frag} {mg : Str → Option Value} {base : Heap}
structure Gd (ar : Str → Option Nat) (nls : List Str) (n : Nat) (t : Tree) : Prop where
  ok : AllT okN t
  dep : Dep n t
  snd : Snd ar nls t
def NeAt (H : Hp) (nr : Addr) (near : List (Str × Str)) : Prop := ∃ vs, H nr = some (.lst vs) ∧ TDs H vs (near.map fun q => .tuple [.str q.1, .str q.2])
theorem NeAt.mono {M : List Addr} {H H' : Hp} {nr : Addr} {near : List (Str × Str)} (k : Kp M H H') (n : nr ∉ M) (h : NeAt H nr near) : NeAt H' nr near := by
  obtain ⟨vs, h1, h2⟩ := h
  exact ⟨vs, k.at h1 n, h2.mono k⟩
theorem mem_putK {kvs : List (Key × V)} {k : Key} {v : V} {q : Key × V} (h : q ∈ putK kvs k v) : q = (k, v) ∨ q ∈ kvs := by
  unfold putK at h
  split at h
  · obtain ⟨r, hr, e⟩ := List.mem_map.mp h
    split at e
    · rename_i hk
      exact .inl (by rw [← e, hk])
    · exact .inr (by rw [← e]; exact hr)
  · rcases List.mem_append.mp h with h | h
    · exact .inr h
    · exact .inl (List.mem_singleton.mp h)
theorem valV_mem {kvs : List (Key × V)} {k : Key} {v : V} (h : valV kvs k = some v) : (k, v) ∈ kvs := by
  unfold valV at h
  obtain ⟨q, hq, e⟩ := Option.map_eq_some_iff.mp h
  have h1 := List.mem_of_find?_eq_some hq
  have h2 := List.find?_some hq
  simp at h2
  rw [← h2, ← e]
  exact h1
theorem dp_strs {H : Hp} : ∀ ns : List Str, DpAll K H (ns.map V.str) (ns.map PyData.str)
  | [] => .nil
  | n :: ns => .cons (.str n) (dp_strs ns)
theorem r_ne_lnil {H : Hp} {Q : VK} {l p : Addr} {ns : List Str} (h : H l = some (.lst (ns.map V.str))) (hp : H p = some (.lst [])) (hn : ∀ x ∈ ns, PyData.strOk x = true) (q : Q (.bl (!ns.isEmpty)) H) : rNeX K (.ref l) (.ref p) H Q := by
  have lay : ∀ ms : List Str, (∀ x ∈ ms, PyData.strOk x = true) → PyData.canLayAll0 (ms.map PyData.str) = true := by
    intro ms
    induction ms with
    | nil => intro _; simp [PyData.canLayAll0]
    | cons m ms ih =>
      intro h
      have h1 := ih fun x hx => h x (by simp [hx])
      have h2 := h m (by simp)
      simp [PyData.canLayAll0, PyData.canLay0, h1, h2]
  refine .inr ⟨.list (ns.map .str), .list [], .lst (SqL.of h) (dp_strs ns), .lst (SqL.of hp) .nil, by simp [PyData.canLay0, lay ns hn], by simp [PyData.canLay0, PyData.canLayAll0], by simp [PyData.depth, PyData.depthAll], ?_⟩
  have e : PyData.eqv (.list (ns.map .str)) (.list []) = ns.isEmpty := by
    cases ns <;> simp [PyData.eqv, PyData.eqvAll]
  rw [e]
  exact q
/-- the state of the drawing -/
structure Dw (H : Hp) (dl wl : Addr) (f : Int) (nl hl : Addr) : Prop where
  dr : DrAt H dl
  wy : WyAt H wl f nl hl
theorem Dw.mono {M : List Addr} {H H' : Hp} {dl wl nl hl : Addr} {f : Int} (D : Dw H dl wl f nl hl) (k : Kp M H H') (h1 : dl ∉ M) (h2 : wl ∉ M) : Dw H' dl wl f nl hl := ⟨D.dr.mono k h1, D.wy.mono k h2⟩
theorem Dw.ne {H : Hp} {dl wl nl hl : Addr} {f : Int} (D : Dw H dl wl f nl hl) : dl ≠ wl := by
  obtain ⟨_, _, g1, _⟩ := D.dr
  obtain ⟨_, _, _, g2, _⟩ := D.wy
  exact ne_kind g1 g2 (by simp)
theorem Dw.new {H : Hp} {dl wl nl hl p : Addr} {f : Int} (D : Dw H dl wl f nl hl) (h : H p = none) : dl ≠ p ∧ wl ≠ p := by
  obtain ⟨_, _, g1, _⟩ := D.dr
  obtain ⟨_, _, _, g2, _⟩ := D.wy
  exact ⟨ne_of_none g1 h, ne_of_none g2 h⟩
/-- drawn: the draws have changed -/
theorem Dw.drawn {H H' : Hp} {dl wl nl hl : Addr} {f : Int} (D : Dw H dl wl f nl hl) (k : Kp [dl] H H') (d : DrAt H' dl) : Dw H' dl wl f nl hl := ⟨d, D.wy.mono k (ni1 (Ne.symm D.ne))⟩
theorem Dw.placed {H H' : Hp} {dl wl nl hl : Addr} {f f' : Int} (D : Dw H dl wl f nl hl) (k : Kp [wl] H H') (d : WyAt H' wl f' nl hl) : Dw H' dl wl f' nl hl := ⟨D.dr.mono k (ni1 D.ne), d⟩
/-- a dict locked while a statement runs -/
theorem r_lockD {t : TS} {D : Ends} {σ : L2.St} {H : Hp} {d : Addr} {kvs : List (Key × V)} (h : H d = some (.dK kvs)) (q : ∀ od H2, Kp [d] H H2 → H2 d = some (.frz od (.dK kvs)) → t ⟨fun σ' H' => H' d = some (.frz od (.dK kvs)) ∧ D.nx σ' (upd H' d (.dK kvs)), fun v H' => H' d = some (.frz od (.dK kvs)) ∧ D.rt v (upd H' d (.dK kvs)), fun σ' H' => H' d = some (.frz od (.dK kvs)) ∧ D.bk σ' (upd H' d (.dK kvs)), fun σ' H' => H' d = some (.frz od (.dK kvs)) ∧ D.ct σ' (upd H' d (.dK kvs))⟩ σ H2) : tLock t D σ H :=
  ⟨d, .dK kvs, h, trivial, fun od => q od _ (Kp.wr (by simp) h rfl) upd_same⟩
/-- names that are fit, and laid -/
theorem okName.lay {x : Str} (h : okName x) : PyData.strOk x = true := by
  unfold PyData.strOk
  rw [← Array.all_toList, List.all_eq_true]
  intro c hc
  have h1 := h.2.2.2 c hc
  have h2 : ∀ c ∈ lowL, decide (c < 0x110000) = true := by decide +kernel
  exact h2 c h1
def sp_law_leaf : Sp := fun vs H Q _ => ∃ (dl wl nl hl nr : Addr) (f : Int) (want : Str) (near : List (Str × Str)) (ar : Str → Option Nat), vs = [.ref dl, .ref wl, .str want, .ref nr] ∧ Dw H dl wl f nl hl ∧ NeAt H nr near ∧ near.length ≤ 100 ∧ (∀ q ∈ near, okName q.1) ∧
  ∀ v H' t, Kp [dl, wl] H H' → Dw H' dl wl f nl hl → TD H' v (tr t) → (∀ nls : List Str, (∀ q ∈ near, q.1 ∈ nls) → Gd ar nls 1 t) → sz t = 1 → Q v H'
theorem sc__law_leaf : FnScope ["draws", "way", "want", "near", "seen_d", "name", "kind", "some", "place"] ["draws", "way", "want", "near"] (defScope s__law_leaf) := ⟨rfl, rfl, rfl, by decide +kernel, rfl, by decide +kernel, by decide +kernel⟩
theorem c_law_leaf (T : Txt K mg) (C__law_draw : Cal P w K mg base 1 "_law_draw" ["draws", "many"] sp_law_draw) (C__law_place : Cal P w K mg base 1 "_law_place" ["way"] sp_law_place) : Cal P w K mg base 2 "_law_leaf" ["draws", "way", "want", "near"] sp_law_leaf := by
  obtain ⟨fd, F⟩ := T.F__law_leaf
  refine mk_cal F T.g__law_leaf (fun _ _ _ _ _ _ us hl => match us, hl with | [_, _, _, _], _ => rfl) (mk_ok F sc__law_leaf (by walk_at "len") fun cdv A outer s H vs Q E hr h => ?_)
  obtain ⟨dl, wl, nl, hl, nr, f, want, near, ar, rfl, D, N, hn, okn, q⟩ := h
  refine ⟨_, (pss_cons (ps_set (i := 4) sc__law_leaf.nd rfl (by first | exact Or.inl rfl | exact Or.inr rfl) pe_dnewK) (pss_cons (ps_for PassesOwn.never rfl (pi_list (pv 3)) (pg_tup rfl (pgs_cons (pg_name (i := 5) sc__law_leaf.nd rfl (by first | exact Or.inl rfl | exact Or.inr rfl)) (pgs_cons (pg_name (i := 6) sc__law_leaf.nd rfl (by first | exact Or.inl rfl | exact Or.inr rfl)) pgs_nil))) (pss_one (ps_dput (hu_of hr) (pv 4) (pv 5) (pv 6) rfl))) (pss_cons (ps_lock (ps_setLc (i := 7) (own := [("name", 5)]) (g := (gName 5)) rfl sc__law_leaf.nd rfl rfl (sw_true rfl rfl rfl (by decide +kernel)) (pi_keys (pv 4)) (blkOk_by (own := [("name", 5)]) (N := ["draws", "way", "want", "near", "seen_d", "name", "kind", "some", "place"]) (sc := defScope s__law_leaf) (by decide +kernel)) (fun _ _ _ _ _ => (pg_name (i := 5) sc__law_leaf.nd rfl (by first | exact Or.inl rfl | exact Or.inr rfl))) (fun _ _ _ _ _ => (pts_one (pt_cmpR (op_eqXK (K := K) hr rfl) (pe_dget (hu_of hr) (pv 4) (pv 5) (fun _ _ => rfl)) (pv 2) (nomark _)))) (fun _ _ _ _ _ => (pv 5)))) (pss_cons (ps_set (i := 8) sc__law_leaf.nd rfl (by first | exact Or.inl rfl | exact Or.inr rfl) (pe_cal C__law_place hr (pa_cons (pv 1) pa_nil))) (pss_cons (ps_if (PW.pt (pw_and (pt_cmpR (op_neXK (K := K) hr rfl) (pv 7) (pe_lstK pa_nil) (nomark _)) (pw_and1 (pt_cmpR op_gt (pe_cal C__law_draw hr (pa_cons (pv 0) (pa_cons pe_int pa_nil))) pe_int (nomark _))))) (pss_one (ps_ret (pe_tupK (pa_cons pe_str (pa_cons (pv 8) (pa_cons (pe_ix (ix_seqK (K := K) rfl) (pv 7) (pe_cal C__law_draw hr (pa_cons (pv 0) (pa_cons (pe_callB (call_lenKK (K := K) rfl) (by rfl) T.b_len PySem.boot_len (pa_cons (pv 7) pa_nil)) pa_nil))) (fun _ _ => rfl)) (pa_cons (pe_tupK pa_nil) pa_nil))))))) pss_nil) (pss_cons (ps_if (pt_cmpR (op_eqXK (K := K) hr rfl) (pv 2) pe_str (nomark _)) (pss_one (ps_ret (pe_tupK (pa_cons pe_str (pa_cons (pv 8) pa_nil))))) pss_nil) (pss_one (ps_ret (pe_tupK (pa_cons pe_str (pa_cons (pv 8) (pa_cons (pe_ix (ix_seqK (K := K) rfl) (pe_lstK (pa_cons pe_int (pa_cons pe_int (pa_cons pe_int (pa_cons pe_int (pa_cons pe_int (pa_cons (pe_op op_sub (pe_op op_pow pe_int pe_int) pe_int) (pa_cons pe_int (pa_cons pe_int pa_nil))))))))) (pe_cal C__law_draw hr (pa_cons (pv 0) (pa_cons pe_int pa_nil))) (fun _ _ => rfl)) pa_nil)))))))))))), ?_⟩
  have hlN : ∃ vs, H nr = some (.lst vs) ∧ vs.length = near.length := by
    obtain ⟨vs, h1, h2⟩ := N
    exact ⟨vs, h1, by rw [h2.1, List.length_map]⟩
  obtain ⟨xs, hx, ts⟩ := id N
  have hxl : xs.length = near.length := by rw [ts.1, List.length_map]
  walk_at "rr"
  intro d H1 k1 n1 e1
  walk_at "rr"
  have hx1 := k1.at hx ni0
  have nd : nr ≠ d := ne_of_none hx n1
  have D1 := D.mono k1 ni0 ni0
  obtain ⟨dld, wld⟩ := D.new n1
  refine ⟨⟨_, SqL.of hx1⟩, ?_⟩
  have ts1 := ts.mono k1
  refine forW (walk_list (xs := xs)) (fun i σ H' => ∃ o5 o6, σ = [some (.ref dl), some (.ref wl), some (.str want), some (.ref nr), some (.ref d), o5, o6, none, none] ∧ Kp [d] H1 H' ∧ ∃ kvs : List (Key × V), H' d = some (.dK kvs) ∧ kvs.length ≤ i ∧ ∀ q ∈ kvs, ∃ x s, q = (Sum.inr x, V.str s) ∧ x ∈ near.map Prod.fst)
    ⟨none, none, rfl, Kp.refl _ _, [], e1, by simp, by simp⟩ ?_ ?_ ?_
  · rintro i σ H' _ ⟨_, _, _, k, _⟩
    exact SqL.of (k.at hx1 (ni1 nd))
  · rintro i x σ H2 H3 hi ⟨o5, o6, rfl, k2, kvs, hd, hkl, hk⟩ ⟨rfl, hxi⟩
    obtain ⟨s0, hs0, his, hts⟩ := ts1.map_get hxi
    obtain ⟨a, ys, rfl, ha, tt⟩ := (hts.mono k2).inv
    obtain ⟨y0, ys, rfl, h0, tt⟩ := tt.cons_inv
    obtain ⟨y1, ys, rfl, h1, tt⟩ := tt.cons_inv
    cases tt.nil_inv
    rw [h0.inv_str, h1.inv_str] at ha
    refine r_gTup rfl ha rfl ?_
    walk_at "rr"
    refine r_dput_s hd (by omega) fun H4 k4 e4 => ?_
    walk_at "rr"
    refine ⟨_, _, rfl, k2.trans k4, _, e4, Nat.le_trans (length_putK _ _ _) (by omega), fun q hq => ?_⟩
    rcases mem_putK hq with hq | hq
    · exact ⟨_, _, hq, List.mem_map_of_mem hs0⟩
    · exact hk q hq
  · rintro σ H2 ⟨o5, o6, rfl, k2, kvs, hd, hkl, hk⟩
    rw [hxl] at hkl
    walk_at "rr"
    refine r_lockD hd fun od H3 kf ef => ?_
    walk_at "rr"
    refine ⟨d, od, rfl, .inl ⟨kvs, ef, ?_⟩⟩
    refine lcW (walk_keys (kvs := kvs)) (by omega) [] (fun i acc H' => ∃ ns : List Str, acc = ns.map V.str ∧ ∀ x ∈ ns, x ∈ near.map Prod.fst) (fun H4 k4 => k4.at ef ni0) (fun _ _ _ _ => ⟨[], rfl, by simp⟩) ?_ ?_
    · rintro i z D0 acc H4 H5 hi hD hl4 k4 hdd ⟨ns, rfl, hns⟩ ⟨rfl, kk, vv, hkv, rfl⟩
      obtain ⟨x, s, e, hxn⟩ := hk _ (List.mem_of_getElem? hkv)
      cases e
      walk_at "rr"
      refine ⟨rfl, ?_⟩
      walk_at "rr"
      have hin : ∃ v', valV kvs (.inr x) = some v' := by
        cases h : valV kvs (.inr x) with
        | some v' => exact ⟨v', rfl⟩
        | none => exact absurd (List.mem_map_of_mem (f := (·.1)) (List.mem_of_getElem? hkv)) (valV_not h)
      obtain ⟨v', hv'⟩ := hin
      obtain ⟨x2, s2, e2, _⟩ := hk _ (valV_mem hv')
      cases e2
      refine ⟨d, _, rfl, .inl ⟨kvs, .inr x, .inr ⟨od, k4.at ef ni0⟩, rfl, hv'.symm⟩, ?_⟩
      walk_at "rr"
      by_cases hw : s2 = want
      · refine r_yes (decide_eq_true hw) ?_
        walk_at "rr"
        refine lc_fin hD (by omega) hl4 k4 hdd fun H6 k6 => ⟨ns ++ [x], by rw [List.map_append]; rfl, fun y hy => ?_⟩
        rcases List.mem_append.mp hy with hy | hy
        · exact hns y hy
        · rw [List.mem_singleton.mp hy]
          exact hxn
      · refine r_no (decide_eq_false hw) ?_
        exact ⟨_, by omega, k4, hdd, ns, rfl, hns⟩
    · rintro D0 acc H4 hD hl4 k4 hdd ⟨ns, rfl, hns⟩
      have hnl : ns.length ≤ near.length := by
        rw [List.length_map] at hl4
        omega
      walk_at "rr"
      refine ⟨k4.at ef ni0, ?_⟩
      have kw : Kp [d] H4 (upd H4 d (.dK kvs)) := Kp.wr (by simp) (k4.at ef ni0) rfl
      have dd : D0 ≠ d := fun e => by rw [e, ef] at hD; cases hD
      have hdd2 : (upd H4 d (.dK kvs)) D0 = some (.lst (ns.map V.str)) := by rw [upd_ne dd]; exact hdd
      generalize upd H4 d (.dK kvs) = H5 at kw hdd2
      have k05 : Kp [] H H5 := k1.fresh n1 (k2.trans (kf.trans ((k4.mono (by simp)).trans kw)))
      have D5 := D.mono k05 ni0 ni0
      walk_at "rr"
      refine ⟨wl, nl, hl, f, rfl, D5.wy, fun p plv H6 k6 w6 okp tp => ?_⟩
      have D6 := D5.placed k6 w6
      have hD6 := D5.wy
      have nD0 : wl ≠ D0 ∧ dl ≠ D0 := by
        obtain ⟨a1, a2⟩ := D5.dr
        obtain ⟨b1, b2, b3, b4, _⟩ := D.wy
        obtain ⟨c1, c2, c3, _⟩ := D.dr
        have g : H D0 = none := k1.free ((Kp.refl [] H1).free (k2.free (kf.free hD)))
        exact ⟨ne_of_none b4 g, ne_of_none c3 g⟩
      have e6 := k6.at hdd2 (ni1 (Ne.symm nD0.1))
      have k06 : Kp [dl, wl] H H6 := (k05.mono (by simp)).trans (k6.mono (by simp))
      walk_at "rr"
      refine ⟨by simp, fun p7 H7 k7 n7 e7 => ?_⟩
      have D7 := D6.mono k7 ni0 ni0
      have e67 := k7.at e6 ni0
      have k07 : Kp [dl, wl] H H7 := k06.trans (k7.mono (by simp))
      have okx : ∀ x ∈ ns, okName x := fun x hx => by
        obtain ⟨q0, h1, h2⟩ := List.mem_map.mp (hns x hx)
        rw [← h2]
        exact okn q0 h1
      refine r_ne_lnil e67 e7 (fun x hx => (okx x hx).lay) ?_
      walk_at "rr"
      by_cases hne : ns = []
      · refine r_no (by simp [hne]) ?_
        refine r_no rfl ?_
        walk_at "rr"
        by_cases hw : want = "l"
        · refine r_yes (decide_eq_true hw) ?_
          walk_at "rr"
          refine ⟨by simp, fun pa Ha ka na ea => ?_⟩
          refine q _ Ha (.nil p) (k07.trans (ka.mono (by simp))) (D7.mono ka ni0 ni0) ?_ (fun nls hnl => ⟨.mk okp (by simp [Tree.subs]), .mk (by simp [Tree.subs]), .mk trivial (by simp [scop, Tree.subs])⟩) (by simp [sz])
          rw [tr_nil]
          exact TD.mk ea (.cons (.str _) (.cons ((tp.mono k7).mono ka) .nil))
        · refine r_no (decide_eq_false hw) ?_
          walk_at "rr"
          refine r_I ⟨by decide, by decide, by decide⟩ ?_
          walk_at "rr"
          refine ⟨by simp, fun pa Ha ka na ea => ?_⟩
          have Da := D7.mono ka ni0 ni0
          walk_at "rr"
          refine ⟨dl, 8, rfl, Da.dr, by decide, by decide, fun n Hb hnb kb drb => ?_⟩
          have Db := Da.drawn kb drb
          obtain ⟨i, i1, i2, hxi⟩ : ∃ i : Int, 0 ≤ i ∧ i ≤ 999999999 ∧ ([V.int 0, V.int 1, V.int 2, V.int 3, V.int 7, V.int (10 ^ Int.toNat 9 - 1), V.int 12, V.int 1] : List V)[n]? = some (.int i) := by
            match n, hnb with
            | 0, _ => exact ⟨0, by decide, by decide, rfl⟩
            | 1, _ => exact ⟨1, by decide, by decide, rfl⟩
            | 2, _ => exact ⟨2, by decide, by decide, rfl⟩
            | 3, _ => exact ⟨3, by decide, by decide, rfl⟩
            | 4, _ => exact ⟨7, by decide, by decide, rfl⟩
            | 5, _ => exact ⟨_, by decide, by decide, rfl⟩
            | 6, _ => exact ⟨12, by decide, by decide, rfl⟩
            | 7, _ => exact ⟨1, by decide, by decide, rfl⟩
          refine r_ixL (kb.at ea (ni1 (Ne.symm (D7.new na).1))) n hxi ?_
          walk_at "rr"
          refine ⟨by simp, fun pc Hc kc nc ec => ?_⟩
          refine q _ Hc (.num p i) (k07.trans ((ka.mono (by simp)).trans ((kb.mono (by simp)).trans (kc.mono (by simp))))) (Db.mono kc ni0 ni0) ?_ (fun nls hnl => ⟨.mk ⟨okp, i1, i2⟩ (by simp [Tree.subs]), .mk (by simp [Tree.subs]), .mk trivial (by simp [scop, Tree.subs])⟩) (by simp [sz])
          rw [tr_num]
          exact TD.mk ec (.cons (.str _) (.cons ((((tp.mono k7).mono ka).mono kb).mono kc) (.cons (.int _) .nil)))
      · refine r_yes (by simp [hne]) ?_
        walk_at "rr"
        refine ⟨dl, 4, rfl, D7.dr, by decide, by decide, fun n8 H8 hn8 k8 dr8 => ?_⟩
        have D8 := D7.drawn k8 dr8
        have k08 : Kp [dl, wl] H H8 := k07.trans (k8.mono (by simp))
        have e8 := k8.at e67 (ni1 (Ne.symm nD0.2))
        walk_at "rr"
        by_cases h8 : 0 < n8
        · refine r_yes (decide_eq_true (by omega)) ?_
          walk_at "rr"
          refine r_len_l e8 ?_
          rw [List.length_map]
          walk_at "rr"
          have pos : 1 ≤ ns.length := by
            cases ns with
            | nil => exact absurd rfl hne
            | cons _ _ => simp
          refine ⟨dl, ns.length, rfl, D8.dr, pos, by omega, fun n9 H9 hn9 k9 dr9 => ?_⟩
          have D9 := D8.drawn k9 dr9
          have hx9 : ns[n9]? = some ns[n9] := List.getElem?_eq_getElem hn9
          refine r_ixL (k9.at e8 (ni1 (Ne.symm nD0.2))) n9 (y := .str ns[n9]) (by rw [List.getElem?_map, hx9]; rfl) ?_
          walk_at "rr"
          refine ⟨by simp, fun p10 H10 k10 n10 e10 => ?_⟩
          refine ⟨by simp, fun p11 H11 k11 n11 e11 => ?_⟩
          have kk : Kp [dl, wl] H8 H11 := (k9.mono (by simp)).trans ((k10.mono (by simp)).trans (k11.mono (by simp)))
          have hxm := List.mem_of_getElem? hx9
          refine q _ H11 (.use p ns[n9] []) (k08.trans kk) ((D9.mono k10 ni0 ni0).mono k11 ni0 ni0) ?_ (fun nls hnl => ⟨.mk ⟨okp, okx _ hxm, by simp⟩ (by simp [Tree.subs]), .mk (by simp [Tree.subs]), .mk (.inl ⟨(by obtain ⟨q0, h1, h2⟩ := List.mem_map.mp (hns _ hxm); rw [← h2]; exact hnl q0 h1), rfl⟩) (by simp [scop, Tree.subs])⟩) (by simp [sz, szs])
          rw [tr_use]
          exact TD.mk e11 (.cons (.str _) (.cons ((((tp.mono k7).mono k8).mono kk)) (.cons (.str _) (.cons (TD.mk (k11.atT e10) .nil) .nil))))
        · refine r_no (decide_eq_false (by omega)) ?_
          walk_at "rr"
          by_cases hw : want = "l"
          · refine r_yes (decide_eq_true hw) ?_
            walk_at "rr"
            refine ⟨by simp, fun pa Ha ka na ea => ?_⟩
            refine q _ Ha (.nil p) (k08.trans (ka.mono (by simp))) (D8.mono ka ni0 ni0) ?_ (fun nls hnl => ⟨.mk okp (by simp [Tree.subs]), .mk (by simp [Tree.subs]), .mk trivial (by simp [scop, Tree.subs])⟩) (by simp [sz])
            rw [tr_nil]
            exact TD.mk ea (.cons (.str _) (.cons (((tp.mono k7).mono k8).mono ka) .nil))
          · refine r_no (decide_eq_false hw) ?_
            walk_at "rr"
            refine r_I ⟨by decide, by decide, by decide⟩ ?_
            walk_at "rr"
            refine ⟨by simp, fun pa Ha ka na ea => ?_⟩
            have Da := D8.mono ka ni0 ni0
            walk_at "rr"
            refine ⟨dl, 8, rfl, Da.dr, by decide, by decide, fun n Hb hnb kb drb => ?_⟩
            have Db := Da.drawn kb drb
            obtain ⟨i, i1, i2, hxi⟩ : ∃ i : Int, 0 ≤ i ∧ i ≤ 999999999 ∧ ([V.int 0, V.int 1, V.int 2, V.int 3, V.int 7, V.int (10 ^ Int.toNat 9 - 1), V.int 12, V.int 1] : List V)[n]? = some (.int i) := by
              match n, hnb with
              | 0, _ => exact ⟨0, by decide, by decide, rfl⟩
              | 1, _ => exact ⟨1, by decide, by decide, rfl⟩
              | 2, _ => exact ⟨2, by decide, by decide, rfl⟩
              | 3, _ => exact ⟨3, by decide, by decide, rfl⟩
              | 4, _ => exact ⟨7, by decide, by decide, rfl⟩
              | 5, _ => exact ⟨_, by decide, by decide, rfl⟩
              | 6, _ => exact ⟨12, by decide, by decide, rfl⟩
              | 7, _ => exact ⟨1, by decide, by decide, rfl⟩
            refine r_ixL (kb.at ea (ni1 (Ne.symm (D8.new na).1))) n hxi ?_
            walk_at "rr"
            refine ⟨by simp, fun pc Hc kc nc ec => ?_⟩
            refine q _ Hc (.num p i) (k08.trans ((ka.mono (by simp)).trans ((kb.mono (by simp)).trans (kc.mono (by simp))))) (Db.mono kc ni0 ni0) ?_ (fun nls hnl => ⟨.mk ⟨okp, i1, i2⟩ (by simp [Tree.subs]), .mk (by simp [Tree.subs]), .mk trivial (by simp [scop, Tree.subs])⟩) (by simp [sz])
            rw [tr_num]
            exact TD.mk ec (.cons (.str _) (.cons (((((tp.mono k7).mono k8).mono ka).mono kb).mono kc) (.cons (.int _) .nil)))
end
section
variable {P : Program} {w : World} {K : PySem.W.Frag} {mg : Str → Option Value} {base : Heap}
/-- a head: the name, the params' kinds, the kind -/
abbrev Hd := Str × List Str × Str
def HdV (H : Hp) (dl wl : Addr) (v : V) (h : Hd) : Prop := ∃ p q, v = .ref p ∧ H p = some (.tup [.str h.1, .ref q, .str h.2.2]) ∧ H q = some (.lst (h.2.1.map V.str)) ∧ q ∉ [dl, wl]
structure Ev (H : Hp) (dl wl nl hl : Addr) (names : List Str) (hs : List Hd) (ar : Str → Option Nat) : Prop where
  nm : H nl = some (.lst (names.map V.str))
  eight : names.length = 8
  nmok : ∀ x ∈ names, okName x
  nd : names.Nodup
  hd : ∃ vs, H hl = some (.lst vs) ∧ vs.length = hs.length ∧ ∀ (i : Nat) v h, vs[i]? = some v → hs[i]? = some h → HdV H dl wl v h
  few : hs.length ≤ 4
  har : ∀ h ∈ hs, okName h.1 ∧ h.2.1.length ≤ 3 ∧ ar h.1 = some h.2.1.length ∧ PyData.strOk h.2.2 = true ∧ ∀ k ∈ h.2.1, PyData.strOk k = true
  nn : nl ∉ [dl, wl]
  hn : hl ∉ [dl, wl]
theorem HdV.mono {H H' : Hp} {dl wl : Addr} {v : V} {h : Hd} (k : Kp [dl, wl] H H') (x : HdV H dl wl v h) : HdV H' dl wl v h := by
  obtain ⟨p, q, h1, h2, h3, h4⟩ := x
  exact ⟨p, q, h1, k.atT h2, k.at h3 h4, h4⟩
theorem Ev.mono {H H' : Hp} {dl wl nl hl : Addr} {names : List Str} {hs : List Hd} {ar : Str → Option Nat} (E : Ev H dl wl nl hl names hs ar) (k : Kp [dl, wl] H H') : Ev H' dl wl nl hl names hs ar := by
  obtain ⟨vs, h1, h2, h3⟩ := E.hd
  exact ⟨k.at E.nm E.nn, E.eight, E.nmok, E.nd, ⟨vs, k.at h1 E.hn, h2, fun i v h a b => (h3 i v h a b).mono k⟩, E.few, E.har, E.nn, E.hn⟩
/-- what stands about a drawn tree -/
structure Rd' (H : Hp) (dl wl nl hl nr : Addr) (f : Int) (names : List Str) (hs : List Hd) (ar : Str → Option Nat) (near : List (Str × Str)) (n : Nat) : Prop where
  D : Dw H dl wl f nl hl
  E : Ev H dl wl nl hl names hs ar
  N : NeAt H nr near
  nn : nr ∉ [dl, wl]
  room : near.length + 2 * n ≤ 90
  okn : ∀ q ∈ near, okName q.1
theorem Rd'.mono {H H' : Hp} {dl wl nl hl nr : Addr} {f f' : Int} {names : List Str} {hs : List Hd} {ar : Str → Option Nat} {near : List (Str × Str)} {n m : Nat} (R : Rd' H dl wl nl hl nr f names hs ar near n) (k : Kp [dl, wl] H H') (D : Dw H' dl wl f' nl hl) (hm : m ≤ n) : Rd' H' dl wl nl hl nr f' names hs ar near m :=
  ⟨D, R.E.mono k, R.N.mono k R.nn, R.nn, by have := R.room; omega, R.okn⟩
def sp_law_tree (n : Nat) : Sp := fun vs H Q _ => ∃ (dl wl nl hl nr : Addr) (f : Int) (want : Str) (names : List Str) (hs : List Hd) (ar : Str → Option Nat) (near : List (Str × Str)), vs = [.ref dl, .ref wl, .str want, .ref nr, .int (n : Int)] ∧ Rd' H dl wl nl hl nr f names hs ar near n ∧ 1 ≤ n ∧
  ∀ v H' t (f' : Int), Kp [dl, wl] H H' → Dw H' dl wl f' nl hl → TD H' v (tr t) → Gd ar (near.map Prod.fst) (n + 1) t → ((sz t : Nat) : Int) = f - f' → min (f - 1) (2 - 2 * (n : Int)) ≤ f' → Q v H'
/-- a tree of more than one: the fuel is taken already -/
def sp_law_big (n : Nat) : Sp := fun vs H Q _ => ∃ (dl wl nl hl nr : Addr) (f : Int) (want : Str) (names : List Str) (hs : List Hd) (ar : Str → Option Nat) (near : List (Str × Str)), vs = [.ref dl, .ref wl, .str want, .ref nr, .int ((n + 1 : Nat) : Int)] ∧ Rd' H dl wl nl hl nr f names hs ar near n ∧ 1 ≤ f ∧ 1 ≤ n ∧
  ∀ v H' t (f' : Int), Kp [dl, wl] H H' → Dw H' dl wl f' nl hl → TD H' v (tr t) → Gd ar (near.map Prod.fst) (n + 2) t → ((sz t : Nat) : Int) = 1 + f - f' → - 2 * (n : Int) ≤ f' → Q v H'
theorem ops8 (n : Nat) (h : n < 8) : ∃ s : Str, s ∈ opsL ∧ ([V.str "+", V.str "-", V.str "*", V.str "div", V.str "mod", V.str "==", V.str "<", V.str "+"] : List V)[n]? = some (.str s) := by
  match n, h with
  | 0, _ => exact ⟨"+", by decide +kernel, rfl⟩
  | 1, _ => exact ⟨"-", by decide +kernel, rfl⟩
  | 2, _ => exact ⟨"*", by decide +kernel, rfl⟩
  | 3, _ => exact ⟨"div", by decide +kernel, rfl⟩
  | 4, _ => exact ⟨"mod", by decide +kernel, rfl⟩
  | 5, _ => exact ⟨"==", by decide +kernel, rfl⟩
  | 6, _ => exact ⟨"<", by decide +kernel, rfl⟩
  | 7, _ => exact ⟨"+", by decide +kernel, rfl⟩
theorem sc__law_op : FnScope ["draws", "way", "want", "near", "deep", "place", "sign", "sides", "left"] ["draws", "way", "want", "near", "deep"] (defScope s__law_op) := ⟨rfl, rfl, rfl, by decide +kernel, rfl, by decide +kernel, by decide +kernel⟩
theorem c_law_op {n : Nat} (T : Txt K mg) (C__law_draw : Cal P w K mg base 1 "_law_draw" ["draws", "many"] sp_law_draw) (C__law_place : Cal P w K mg base 1 "_law_place" ["way"] sp_law_place) (C__law_tree : Cal P w K mg base (2 * n + 3) "_law_tree" ["draws", "way", "want", "near", "deep"] (sp_law_tree n)) : Cal P w K mg base (2 * n + 4) "_law_op" ["draws", "way", "want", "near", "deep"] (sp_law_big n) := by
  obtain ⟨fd, F⟩ := T.F__law_op
  refine mk_cal F T.g__law_op (fun _ _ _ _ _ _ us hl => match us, hl with | [_, _, _, _, _], _ => rfl) (mk_ok F sc__law_op (by walk_at "len") fun cdv A outer s H vs Q E hr h => ?_)
  obtain ⟨dl, wl, nl, hl, nr, f, want, names, hs, ar, near, rfl, R, hf, hn, q⟩ := h
  refine ⟨_, (pss_cons (ps_set (i := 5) sc__law_op.nd rfl (by first | exact Or.inl rfl | exact Or.inr rfl) (pe_cal C__law_place hr (pa_cons (pv 1) pa_nil))) (pss_cons (ps_set (i := 6) sc__law_op.nd rfl (by first | exact Or.inl rfl | exact Or.inr rfl) pe_str) (pss_cons (ps_set (i := 7) sc__law_op.nd rfl (by first | exact Or.inl rfl | exact Or.inr rfl) (pe_lstK (pa_cons pe_str (pa_cons pe_str pa_nil)))) (pss_cons (ps_if (pt_cmpR (op_eqXK (K := K) hr rfl) (pv 2) pe_str (nomark _)) (pss_cons (ps_set (i := 6) sc__law_op.nd rfl (by first | exact Or.inl rfl | exact Or.inr rfl) (pe_ix (ix_seqK (K := K) rfl) (pe_lstK (pa_cons pe_str (pa_cons pe_str (pa_cons pe_str (pa_cons pe_str (pa_cons pe_str (pa_cons pe_str (pa_cons pe_str (pa_cons pe_str pa_nil))))))))) (pe_cal C__law_draw hr (pa_cons (pv 0) (pa_cons pe_int pa_nil))) (fun _ _ => rfl))) (pss_cons (ps_set (i := 7) sc__law_op.nd rfl (by first | exact Or.inl rfl | exact Or.inr rfl) (pe_lstK (pa_cons pe_str (pa_cons pe_str pa_nil)))) (pss_one (ps_if (PW.pt (pw_and (pt_cmpR (op_eqXK (K := K) hr rfl) (pv 6) pe_str (nomark _)) (pw_and1 (pt_cmpR (op_eqXK (K := K) hr rfl) (pe_cal C__law_draw hr (pa_cons (pv 0) (pa_cons pe_int pa_nil))) pe_int (nomark _))))) (pss_one (ps_set (i := 7) sc__law_op.nd rfl (by first | exact Or.inl rfl | exact Or.inr rfl) (pe_lstK (pa_cons pe_str (pa_cons pe_str pa_nil))))) pss_nil)))) pss_nil) (pss_cons (ps_set (i := 8) sc__law_op.nd rfl (by first | exact Or.inl rfl | exact Or.inr rfl) (pe_cal C__law_tree hr (pa_cons (pv 0) (pa_cons (pv 1) (pa_cons (pe_ix (ix_seqK (K := K) rfl) (pv 7) pe_int (fun _ _ => rfl)) (pa_cons (pv 3) (pa_cons (pe_op op_sub (pv 4) pe_int) pa_nil))))))) (pss_one (ps_ret (pe_tupK (pa_cons pe_str (pa_cons (pv 5) (pa_cons (pv 6) (pa_cons (pv 8) (pa_cons (pe_cal C__law_tree hr (pa_cons (pv 0) (pa_cons (pv 1) (pa_cons (pe_ix (ix_seqK (K := K) rfl) (pv 7) pe_int (fun _ _ => rfl)) (pa_cons (pv 3) (pa_cons (pe_op op_sub (pv 4) pe_int) pa_nil)))))) pa_nil))))))))))))), ?_⟩
  have ed : (((n + 1 : Nat) : Int) - 1) = (n : Int) := by omega
  walk_at "rr"
  refine ⟨wl, nl, hl, f, rfl, R.D.wy, fun p plv H1 k1 w1 okp tp => ?_⟩
  have D1 := R.D.placed k1 w1
  have k01 : Kp [dl, wl] H H1 := k1.mono (by simp)
  walk_at "rr"
  refine ⟨by simp, fun p2 H2 k2 n2 e2 => ?_⟩
  have D2 := D1.mono k2 ni0 ni0
  have k02 : Kp [dl, wl] H H2 := k01.trans (k2.mono (by simp))
  have tp2 := tp.mono k2
  have new2 := D1.new n2
  walk_at "rr"
  by_cases hw : want = "n"
  · refine r_yes (decide_eq_true hw) ?_
    walk_at "rr"
    refine ⟨by simp, fun p3 H3 k3 n3 e3 => ?_⟩
    walk_at "rr"
    have D3 := D2.mono k3 ni0 ni0
    refine ⟨dl, 8, rfl, D3.dr, by decide, by decide, fun n4 H4 hn4 k4 dr4 => ?_⟩
    have D4 := D3.drawn k4 dr4
    obtain ⟨sg, hsg, hx⟩ := ops8 n4 hn4
    refine r_ixL (k4.at e3 (ni1 (Ne.symm (D2.new n3).1))) n4 hx ?_
    walk_at "rr"
    refine ⟨by simp, fun p5 H5 k5 n5 e5 => ?_⟩
    have D5 := D4.mono k5 ni0 ni0
    have new5 := D4.new n5
    have k05 : Kp [dl, wl] H H5 := k02.trans ((k3.mono (by simp)).trans ((k4.mono (by simp)).trans (k5.mono (by simp))))
    have tp5 := ((tp2.mono k3).mono k4).mono k5
    walk_at "rr"
    by_cases hse : sg = "=="
    · refine r_yes (decide_eq_true hse) ?_
      walk_at "rr"
      refine ⟨dl, 2, rfl, D5.dr, by decide, by decide, fun n6 H6 hn6 k6 dr6 => ?_⟩
      have D6 := D5.drawn k6 dr6
      have k06 : Kp [dl, wl] H H6 := k05.trans (k6.mono (by simp))
      have tp6 := tp5.mono k6
      walk_at "rr"
      by_cases h6 : n6 = 0
      · refine r_yes (by simp [h6]) ?_
        walk_at "rr"
        refine ⟨by simp, fun p7 H7 k7 n7 e7 => ?_⟩
        have Dt : Dw H7 dl wl f nl hl := D6.mono k7 ni0 ni0
        have kt : Kp [dl, wl] H H7 := k06.trans (k7.mono (by simp))
        have tpt : TD H7 plv (pl p) := tp6.mono k7
        have et : H7 p7 = some (.lst [.str "l", .str "l"]) := e7
        have nt : dl ≠ p7 ∧ wl ≠ p7 := D6.new n7
        have nt' : p7 ∉ [dl, wl] := by simp [Ne.symm nt.1, Ne.symm nt.2]
        have Rt := R.mono kt Dt (Nat.le_refl n)
        walk_at "rr"
        refine r_ixL et 0 rfl ?_
        walk_at "rr"
        rw [ed]
        refine ⟨dl, wl, nl, hl, nr, f, _, names, hs, ar, near, rfl, Rt, hn, fun lv Ha ta fa ka Da tla ga za ba => ?_⟩
        walk_at "rr"
        refine r_ixL (ka.at et nt') 1 rfl ?_
        walk_at "rr"
        rw [ed]
        refine ⟨dl, wl, nl, hl, nr, fa, _, names, hs, ar, near, rfl, Rt.mono ka Da (Nat.le_refl n), hn, fun rv Hb tb fb kb Db trb gb zb bb => ?_⟩
        refine ⟨by simp, fun pc Hc kc nc ec => ?_⟩
        have hsub : ∀ s ∈ (Tree.op p sg ta tb).subs, s = ta ∨ s = tb := fun s hs => by simpa [Tree.subs] using hs
        refine q _ Hc (.op p sg ta tb) fb (kt.trans (ka.trans (kb.trans (kc.mono (by simp))))) (Db.mono kc ni0 ni0) ?_ ⟨.mk ⟨okp, hsg⟩ fun s hs => ?_, .mk fun s hs => ?_, .mk trivial fun s hs => ?_⟩ (by simp [sz]; omega) (by omega)
        · rw [tr_op]
          exact TD.mk ec (.cons (.str _) (.cons (((tpt.mono ka).mono kb).mono kc) (.cons (.str _) (.cons ((tla.mono kb).mono kc) (.cons (trb.mono kc) .nil)))))
        · rcases hsub s hs with rfl | rfl
          · exact ga.ok
          · exact gb.ok
        · rcases hsub s hs with rfl | rfl
          · exact ga.dep
          · exact gb.dep
        · simp [scop, Tree.subs] at hs
          rcases hs with rfl | rfl
          · exact ga.snd
          · exact gb.snd
      · refine r_no (by simp; omega) ?_
        have Dt : Dw H6 dl wl f nl hl := D6
        have kt : Kp [dl, wl] H H6 := k06
        have tpt : TD H6 plv (pl p) := tp6
        have et : H6 p5 = some (.lst [.str "n", .str "n"]) := k6.at e5 (ni1 (Ne.symm new5.1))
        have nt : dl ≠ p5 ∧ wl ≠ p5 := new5
        have nt' : p5 ∉ [dl, wl] := by simp [Ne.symm nt.1, Ne.symm nt.2]
        have Rt := R.mono kt Dt (Nat.le_refl n)
        walk_at "rr"
        refine r_ixL et 0 rfl ?_
        walk_at "rr"
        rw [ed]
        refine ⟨dl, wl, nl, hl, nr, f, _, names, hs, ar, near, rfl, Rt, hn, fun lv Ha ta fa ka Da tla ga za ba => ?_⟩
        walk_at "rr"
        refine r_ixL (ka.at et nt') 1 rfl ?_
        walk_at "rr"
        rw [ed]
        refine ⟨dl, wl, nl, hl, nr, fa, _, names, hs, ar, near, rfl, Rt.mono ka Da (Nat.le_refl n), hn, fun rv Hb tb fb kb Db trb gb zb bb => ?_⟩
        refine ⟨by simp, fun pc Hc kc nc ec => ?_⟩
        have hsub : ∀ s ∈ (Tree.op p sg ta tb).subs, s = ta ∨ s = tb := fun s hs => by simpa [Tree.subs] using hs
        refine q _ Hc (.op p sg ta tb) fb (kt.trans (ka.trans (kb.trans (kc.mono (by simp))))) (Db.mono kc ni0 ni0) ?_ ⟨.mk ⟨okp, hsg⟩ fun s hs => ?_, .mk fun s hs => ?_, .mk trivial fun s hs => ?_⟩ (by simp [sz]; omega) (by omega)
        · rw [tr_op]
          exact TD.mk ec (.cons (.str _) (.cons (((tpt.mono ka).mono kb).mono kc) (.cons (.str _) (.cons ((tla.mono kb).mono kc) (.cons (trb.mono kc) .nil)))))
        · rcases hsub s hs with rfl | rfl
          · exact ga.ok
          · exact gb.ok
        · rcases hsub s hs with rfl | rfl
          · exact ga.dep
          · exact gb.dep
        · simp [scop, Tree.subs] at hs
          rcases hs with rfl | rfl
          · exact ga.snd
          · exact gb.snd
    · refine r_no (decide_eq_false hse) ?_
      refine r_no rfl ?_
      have Dt : Dw H5 dl wl f nl hl := D5
      have kt : Kp [dl, wl] H H5 := k05
      have tpt : TD H5 plv (pl p) := tp5
      have et : H5 p5 = some (.lst [.str "n", .str "n"]) := e5
      have nt : dl ≠ p5 ∧ wl ≠ p5 := new5
      have nt' : p5 ∉ [dl, wl] := by simp [Ne.symm nt.1, Ne.symm nt.2]
      have Rt := R.mono kt Dt (Nat.le_refl n)
      walk_at "rr"
      refine r_ixL et 0 rfl ?_
      walk_at "rr"
      rw [ed]
      refine ⟨dl, wl, nl, hl, nr, f, _, names, hs, ar, near, rfl, Rt, hn, fun lv Ha ta fa ka Da tla ga za ba => ?_⟩
      walk_at "rr"
      refine r_ixL (ka.at et nt') 1 rfl ?_
      walk_at "rr"
      rw [ed]
      refine ⟨dl, wl, nl, hl, nr, fa, _, names, hs, ar, near, rfl, Rt.mono ka Da (Nat.le_refl n), hn, fun rv Hb tb fb kb Db trb gb zb bb => ?_⟩
      refine ⟨by simp, fun pc Hc kc nc ec => ?_⟩
      have hsub : ∀ s ∈ (Tree.op p sg ta tb).subs, s = ta ∨ s = tb := fun s hs => by simpa [Tree.subs] using hs
      refine q _ Hc (.op p sg ta tb) fb (kt.trans (ka.trans (kb.trans (kc.mono (by simp))))) (Db.mono kc ni0 ni0) ?_ ⟨.mk ⟨okp, hsg⟩ fun s hs => ?_, .mk fun s hs => ?_, .mk trivial fun s hs => ?_⟩ (by simp [sz]; omega) (by omega)
      · rw [tr_op]
        exact TD.mk ec (.cons (.str _) (.cons (((tpt.mono ka).mono kb).mono kc) (.cons (.str _) (.cons ((tla.mono kb).mono kc) (.cons (trb.mono kc) .nil)))))
      · rcases hsub s hs with rfl | rfl
        · exact ga.ok
        · exact gb.ok
      · rcases hsub s hs with rfl | rfl
        · exact ga.dep
        · exact gb.dep
      · simp [scop, Tree.subs] at hs
        rcases hs with rfl | rfl
        · exact ga.snd
        · exact gb.snd
  · refine r_no (decide_eq_false hw) ?_
    have Dt : Dw H2 dl wl f nl hl := D2
    have kt : Kp [dl, wl] H H2 := k02
    have tpt : TD H2 plv (pl p) := tp2
    have et : H2 p2 = some (.lst [.str "n", .str "l"]) := e2
    have nt : dl ≠ p2 ∧ wl ≠ p2 := new2
    have nt' : p2 ∉ [dl, wl] := by simp [Ne.symm nt.1, Ne.symm nt.2]
    have Rt := R.mono kt Dt (Nat.le_refl n)
    walk_at "rr"
    refine r_ixL et 0 rfl ?_
    walk_at "rr"
    rw [ed]
    refine ⟨dl, wl, nl, hl, nr, f, _, names, hs, ar, near, rfl, Rt, hn, fun lv Ha ta fa ka Da tla ga za ba => ?_⟩
    walk_at "rr"
    refine r_ixL (ka.at et nt') 1 rfl ?_
    walk_at "rr"
    rw [ed]
    refine ⟨dl, wl, nl, hl, nr, fa, _, names, hs, ar, near, rfl, Rt.mono ka Da (Nat.le_refl n), hn, fun rv Hb tb fb kb Db trb gb zb bb => ?_⟩
    refine ⟨by simp, fun pc Hc kc nc ec => ?_⟩
    have hsub : ∀ s ∈ (Tree.op p ":" ta tb).subs, s = ta ∨ s = tb := fun s hs => by simpa [Tree.subs] using hs
    refine q _ Hc (.op p ":" ta tb) fb (kt.trans (ka.trans (kb.trans (kc.mono (by simp))))) (Db.mono kc ni0 ni0) ?_ ⟨.mk ⟨okp, (by decide +kernel)⟩ fun s hs => ?_, .mk fun s hs => ?_, .mk trivial fun s hs => ?_⟩ (by simp [sz]; omega) (by omega)
    · rw [tr_op]
      exact TD.mk ec (.cons (.str _) (.cons (((tpt.mono ka).mono kb).mono kc) (.cons (.str _) (.cons ((tla.mono kb).mono kc) (.cons (trb.mono kc) .nil)))))
    · rcases hsub s hs with rfl | rfl
      · exact ga.ok
      · exact gb.ok
    · rcases hsub s hs with rfl | rfl
      · exact ga.dep
      · exact gb.dep
    · simp [scop, Tree.subs] at hs
      rcases hs with rfl | rfl
      · exact ga.snd
      · exact gb.snd
end
section
variable {P : Program} {w : World} {K : PySem.W.Frag} {mg : Str → Option Value} {base : Heap}
def hdD (h : Hd) : PyData := .tuple [.str h.1, .list (h.2.1.map .str), .str h.2.2]
theorem HdV.dp {H : Hp} {dl wl : Addr} {v : V} {h : Hd} (x : HdV H dl wl v h) : Dp K H v (hdD h) := by
  obtain ⟨p, q, rfl, h2, h3, _⟩ := x
  exact .tup (SqT.of h2) (.cons (.str _) (.cons (.lst (SqL.of h3) (dp_strs _)) (.cons (.str _) .nil)))
theorem lay_strs : ∀ ms : List Str, (∀ x ∈ ms, PyData.strOk x = true) → PyData.canLayAll0 (ms.map PyData.str) = true := by
  intro ms
  induction ms with
  | nil => intro _; simp [PyData.canLayAll0]
  | cons m ms ih =>
    intro h
    have h1 := ih fun x hx => h x (by simp [hx])
    have h2 := h m (by simp)
    simp [PyData.canLayAll0, PyData.canLay0, h1, h2]
theorem hdD_lay {h : Hd} (h1 : okName h.1) (h2 : PyData.strOk h.2.2 = true) (h3 : ∀ k ∈ h.2.1, PyData.strOk k = true) : (hdD h).canLay0 = true := by
  have := lay_strs _ h3
  simp [hdD, PyData.canLay0, PyData.canLayAll0, h1.lay, h2, this]
/-- a list of data against [] -/
theorem r_eq_lnil {H : Hp} {Q : VK} {l p : Addr} {xs : List V} {ds : List PyData} (h : H l = some (.lst xs)) (hd : DpAll K H xs ds) (hp : H p = some (.lst [])) (hl : PyData.canLayAll0 ds = true) (q : Q (.bl ds.isEmpty) H) : rEqX K (.ref l) (.ref p) H Q := by
  refine .inr ⟨.list ds, .list [], .lst (SqL.of h) hd, .lst (SqL.of hp) .nil, by simp [PyData.canLay0, hl], by simp [PyData.canLay0, PyData.canLayAll0], by simp [PyData.depth, PyData.depthAll], ?_⟩
  have e : PyData.eqv (.list ds) (.list []) = ds.isEmpty := by
    cases ds <;> simp [PyData.eqv, PyData.eqvAll]
  simp only [Bool.false_eq_true, if_false]
  rw [e]
  exact q
/-- values and their heads -/
inductive HdVs (H : Hp) (dl wl : Addr) (hs : List Hd) : List V → List Hd → Prop
  | nil : HdVs H dl wl hs [] []
  | cons {v : V} {h : Hd} {vs : List V} {gs : List Hd} (x : HdV H dl wl v h) (m : h ∈ hs) (t : HdVs H dl wl hs vs gs) : HdVs H dl wl hs (v :: vs) (h :: gs)
theorem HdVs.snoc {H : Hp} {dl wl : Addr} {hs : List Hd} {vs : List V} {gs : List Hd} (t : HdVs H dl wl hs vs gs) {v : V} {h : Hd} (x : HdV H dl wl v h) (m : h ∈ hs) : HdVs H dl wl hs (vs ++ [v]) (gs ++ [h]) := by
  induction t with
  | nil => exact .cons x m .nil
  | cons y n _ ih => exact .cons y n ih
theorem HdVs.mono {H H' : Hp} {dl wl : Addr} {hs : List Hd} {vs : List V} {gs : List Hd} (k : Kp [dl, wl] H H') (t : HdVs H dl wl hs vs gs) : HdVs H' dl wl hs vs gs := by
  induction t with
  | nil => exact .nil
  | cons y n _ ih => exact .cons (y.mono k) n ih
theorem HdVs.len {H : Hp} {dl wl : Addr} {hs : List Hd} {vs : List V} {gs : List Hd} (t : HdVs H dl wl hs vs gs) : vs.length = gs.length := by
  induction t with
  | nil => rfl
  | cons y n _ ih => simp [ih]
theorem HdVs.get {H : Hp} {dl wl : Addr} {hs : List Hd} {vs : List V} {gs : List Hd} (t : HdVs H dl wl hs vs gs) : ∀ {i : Nat} {h : Hd}, gs[i]? = some h → ∃ v, vs[i]? = some v ∧ HdV H dl wl v h ∧ h ∈ hs := by
  induction t with
  | nil => intro i h e; simp at e
  | cons y n _ ih =>
    intro i h e
    cases i with
    | zero =>
      simp at e
      subst e
      exact ⟨_, rfl, y, n⟩
    | succ i => exact ih (by simpa using e)
theorem HdVs.dp {H : Hp} {dl wl : Addr} {hs : List Hd} {vs : List V} {gs : List Hd} (t : HdVs H dl wl hs vs gs) : DpAll K H vs (gs.map hdD) := by
  induction t with
  | nil => exact .nil
  | cons y n _ ih => exact .cons y.dp ih
theorem HdVs.all {H : Hp} {dl wl : Addr} {hs : List Hd} {vs : List V} {gs : List Hd} (t : HdVs H dl wl hs vs gs) : ∀ g ∈ gs, g ∈ hs := by
  induction t with
  | nil => simp
  | cons y n _ ih =>
    intro g hg
    rcases List.mem_cons.mp hg with e | e
    · rw [e]; exact n
    · exact ih g e
theorem hds_lay {gs : List Hd} (h : ∀ g ∈ gs, (hdD g).canLay0 = true) : PyData.canLayAll0 (gs.map hdD) = true := by
  induction gs with
  | nil => simp [PyData.canLayAll0]
  | cons g gs ih => simp [PyData.canLayAll0, h g (by simp), ih fun x hx => h x (by simp [hx])]
theorem take_snoc2 {α : Type} {l : List α} {i : Nat} {x : α} (h : l[i]? = some x) : l.take (i + 1) = l.take i ++ [x] := by
  rw [List.take_add_one, h]
  rfl
theorem sc__law_call : FnScope ["draws", "way", "want", "near", "deep", "hidden", "name", "kind", "some", "head", "place"] ["draws", "way", "want", "near", "deep"] (defScope s__law_call) := ⟨rfl, rfl, rfl, by decide +kernel, rfl, by decide +kernel, by decide +kernel⟩
theorem c_law_call {n : Nat} (T : Txt K mg) (C__law_draw : Cal P w K mg base 1 "_law_draw" ["draws", "many"] sp_law_draw) (C__law_place : Cal P w K mg base 1 "_law_place" ["way"] sp_law_place) (C__law_leaf : Cal P w K mg base 2 "_law_leaf" ["draws", "way", "want", "near"] sp_law_leaf) (C__law_tree : Cal P w K mg base (2 * n + 3) "_law_tree" ["draws", "way", "want", "near", "deep"] (sp_law_tree n)) : Cal P w K mg base (2 * n + 4) "_law_call" ["draws", "way", "want", "near", "deep"] (sp_law_big n) := by
  obtain ⟨fd, F⟩ := T.F__law_call
  refine mk_cal F T.g__law_call (fun _ _ _ _ _ _ us hl => match us, hl with | [_, _, _, _, _], _ => rfl) (mk_ok F sc__law_call (by walk_at "len") fun cdv A outer s H vs Q E hr h => ?_)
  obtain ⟨dl, wl, nl, hl, nr, f, want, names, hs, ar, near, rfl, R, hf, hn, q⟩ := h
  refine ⟨_, (pss_cons (ps_set (i := 5) sc__law_call.nd rfl (by first | exact Or.inl rfl | exact Or.inr rfl) (pe_lc (own := [("name", 6), ("kind", 7)]) (g := (gTup K 2 (gCons (gName 6) (gCons (gName 7) gNil)))) (tt := tYes) rfl sc__law_call.nd (pi_list (pv 3)) (blkOk_by (own := [("name", 6), ("kind", 7)]) (N := ["draws", "way", "want", "near", "deep", "hidden", "name", "kind", "some", "head", "place"]) (sc := defScope s__law_call) (by decide +kernel)) (fun _ _ _ _ _ => (pg_tup rfl (pgs_cons (pg_name (i := 6) sc__law_call.nd rfl (by first | exact Or.inl rfl | exact Or.inr rfl)) (pgs_cons (pg_name (i := 7) sc__law_call.nd rfl (by first | exact Or.inl rfl | exact Or.inr rfl)) pgs_nil)))) (fun _ _ _ _ _ => pts_nil) (fun _ _ _ _ _ => (pv 6)))) (pss_cons (ps_setLc (i := 8) (own := [("head", 9)]) (g := (gName 9)) rfl sc__law_call.nd rfl rfl (sw_true rfl rfl rfl (by decide +kernel)) (pi_list (pe_ix (ix_seqK (K := K) rfl) (pv 1) pe_int (fun _ _ => rfl))) (blkOk_by (own := [("head", 9)]) (N := ["draws", "way", "want", "near", "deep", "hidden", "name", "kind", "some", "head", "place"]) (sc := defScope s__law_call) (by decide +kernel)) (fun _ _ _ _ _ => (pg_name (i := 9) sc__law_call.nd rfl (by first | exact Or.inl rfl | exact Or.inr rfl))) (fun _ _ _ _ _ => (pts_one (PW.pt (pw_and (pt_cmpR (op_eqXK (K := K) hr rfl) (pe_ix (ix_seqK (K := K) rfl) (pv 9) pe_int (fun _ _ => rfl)) (pv 2) (nomark _)) (pw_and1 (pt_cmpR (op_notIn_seqK (K := K) rfl) (pe_ix (ix_seqK (K := K) rfl) (pv 9) pe_int (fun _ _ => rfl)) (pv 5) rfl)))))) (fun _ _ _ _ _ => (pv 9))) (pss_cons (ps_if (pt_cmpR (op_eqXK (K := K) hr rfl) (pv 8) (pe_lstK pa_nil) (nomark _)) (pss_one (ps_ret (pe_cal C__law_leaf hr (pa_cons (pv 0) (pa_cons (pv 1) (pa_cons (pv 2) (pa_cons (pv 3) pa_nil))))))) pss_nil) (pss_cons (ps_set (i := 9) sc__law_call.nd rfl (by first | exact Or.inl rfl | exact Or.inr rfl) (pe_ix (ix_seqK (K := K) rfl) (pv 8) (pe_cal C__law_draw hr (pa_cons (pv 0) (pa_cons (pe_callB (call_lenKK (K := K) rfl) (by rfl) T.b_len PySem.boot_len (pa_cons (pv 8) pa_nil)) pa_nil))) (fun _ _ => rfl))) (pss_cons (ps_set (i := 10) sc__law_call.nd rfl (by first | exact Or.inl rfl | exact Or.inr rfl) (pe_cal C__law_place hr (pa_cons (pv 1) pa_nil))) (pss_one (ps_ret (pe_tupK (pa_cons pe_str (pa_cons (pv 10) (pa_cons (pe_ix (ix_seqK (K := K) rfl) (pv 9) pe_int (fun _ _ => rfl)) (pa_cons (pe_callTy (call_tupleKK (K := K) rfl) (by rfl) T.b_tuple (by decide +kernel) (pa_cons (pe_lc (own := [("kind", 7)]) (g := (gName 7)) (tt := tYes) rfl sc__law_call.nd (pi_list (pe_ix (ix_seqK (K := K) rfl) (pv 9) pe_int (fun _ _ => rfl))) (blkOk_by (own := [("kind", 7)]) (N := ["draws", "way", "want", "near", "deep", "hidden", "name", "kind", "some", "head", "place"]) (sc := defScope s__law_call) (by decide +kernel)) (fun _ _ _ _ _ => (pg_name (i := 7) sc__law_call.nd rfl (by first | exact Or.inl rfl | exact Or.inr rfl))) (fun _ _ _ _ _ => pts_nil) (fun _ _ _ _ _ => (pe_cal C__law_tree hr (pa_cons (pv 0) (pa_cons (pv 1) (pa_cons (pv 7) (pa_cons (pv 3) (pa_cons (pe_op op_sub (pv 4) pe_int) pa_nil)))))))) pa_nil)) pa_nil)))))))))))), ?_⟩
  have ed : (((n + 1 : Nat) : Int) - 1) = (n : Int) := by omega
  have hroom := R.room
  obtain ⟨xs, hx, ts⟩ := id R.N
  have hxl : xs.length = near.length := by rw [ts.1, List.length_map]
  walk_at "rr"
  refine ⟨⟨_, SqL.of hx⟩, ?_⟩
  refine lcW (walk_list (xs := xs)) (by omega) [] (fun i acc _ => acc = ((near.take i).map Prod.fst).map V.str) (fun H1 k => SqL.of (k.at hx ni0)) (fun _ _ _ _ => rfl) ?_ ?_
  · rintro i z D0 acc H1 H2 hi hD hl1 k1 hdd rfl ⟨rfl, hz⟩
    obtain ⟨s0, hs0, his, hts⟩ := ts.map_get hz
    obtain ⟨a, ys, rfl, ha, tt⟩ := (hts.mono k1).inv
    obtain ⟨y0, ys, rfl, h0, tt⟩ := tt.cons_inv
    obtain ⟨y1, ys, rfl, h1, tt⟩ := tt.cons_inv
    cases tt.nil_inv
    rw [h0.inv_str, h1.inv_str] at ha
    refine r_gTup rfl ha rfl ?_
    walk_at "rr"
    refine ⟨rfl, ?_⟩
    walk_at "rr"
    refine r_yes rfl ?_
    walk_at "rr"
    refine lc_fin hD (by omega) hl1 k1 hdd fun H6 k6 => ?_
    rw [take_snoc2 his, List.map_append, List.map_append]
    rfl
  rintro Dh acc H1 hDh _ k1 hdh rfl
  rw [hxl, List.take_length] at hdh
  have R1 := R.mono (k1.mono (by simp)) (R.D.mono k1 ni0 ni0) (Nat.le_refl n)
  have nDh := R.D.new hDh
  obtain ⟨aw, sw, wr, hw1, hwr⟩ := R1.D.wy
  obtain ⟨vs, hv, hvl, hvs⟩ := R1.E.hd
  have hf4 := R1.E.few
  walk_at "rr"
  refine r_ixL hw1 4 rfl ?_
  walk_at "r"
  refine ⟨⟨_, SqL.of hv⟩, ?_⟩
  refine lcW (walk_list (xs := vs)) (by omega) [] (fun i acc _ => ∃ gs, HdVs H1 dl wl hs acc gs ∧ ∀ g ∈ gs, g.1 ∉ near.map Prod.fst) (fun H2 k => SqL.of (k.at hv ni0)) (fun _ _ _ _ => ⟨[], .nil, by simp⟩) ?_ ?_
  · rintro i z D0 acc H2 H3 hi hD hl2 k2 hdd ⟨gs, hgs, hno⟩ ⟨rfl, hz⟩
    have hih : i < hs.length := by omega
    have hx0 := hvs i z hs[i] hz (List.getElem?_eq_getElem hih)
    have hx1 := hx0.mono (k2.mono (by simp))
    obtain ⟨pp, qq, rfl, g2, g3, g4⟩ := id hx1
    walk_at "rr"
    refine ⟨rfl, ?_⟩
    walk_at "rr"
    refine .inr (.inl ⟨pp, _, 2, _, rfl, rfl, SqT.of g2, rfl, ?_⟩)
    walk_at "rr"
    by_cases hk : hs[i].2.2 = want
    · refine r_yes (decide_eq_true hk) ?_
      walk_at "rr"
      refine .inr (.inl ⟨pp, _, 0, _, rfl, rfl, SqT.of g2, rfl, ?_⟩)
      walk_at "rr"
      refine r_nin_l (k2.at hdh ni0) ?_
      walk_at "rr"
      by_cases hh : hs[i].1 ∈ near.map Prod.fst
      · refine r_no (by simp only [hh]; rfl) ?_
        exact ⟨acc, by omega, k2, hdd, gs, hgs, hno⟩
      · refine r_yes (by simp only [hh]; rfl) ?_
        walk_at "rr"
        refine lc_fin hD (by omega) hl2 k2 hdd fun H6 k6 => ⟨gs ++ [hs[i]], hgs.snoc hx0 (List.getElem_mem hih), fun g hg => ?_⟩
        rcases List.mem_append.mp hg with hg | hg
        · exact hno g hg
        · rw [List.mem_singleton.mp hg]
          exact hh
    · refine r_no (decide_eq_false hk) ?_
      refine r_no rfl ?_
      exact ⟨acc, by omega, k2, hdd, gs, hgs, hno⟩
  rintro Ds acc H2 hDs hl2 k2 hds ⟨gs, hgs, hno⟩
  have k12 : Kp [dl, wl] H1 H2 := k2.mono (by simp)
  have R2 := R1.mono k12 (R1.D.mono k2 ni0 ni0) (Nat.le_refl n)
  have hgs2 := hgs.mono k12
  have nDs := R1.D.new hDs
  have hgl := hgs.len
  walk_at "rr"
  refine ⟨by simp, fun p3 H3 k3 n3 e3 => ?_⟩
  have R3 := R2.mono (k3.mono (by simp)) (R2.D.mono k3 ni0 ni0) (Nat.le_refl n)
  have hgs3 := hgs2.mono (k3.mono (by simp))
  have hds3 := k3.at hds ni0
  have k03 : Kp [dl, wl] H H3 := (k1.mono (by simp)).trans (k12.trans (k3.mono (by simp)))
  refine r_eq_lnil hds3 hgs3.dp e3 (hds_lay fun g hg => by
    obtain ⟨a1, a2, a3, a4, a5⟩ := R.E.har g (hgs.all g hg)
    exact hdD_lay a1 a4 a5) ?_
  walk_at "rr"
  by_cases hne : gs = []
  · refine r_yes (by simp [hne]) ?_
    walk_at "rr"
    refine ⟨dl, wl, nl, hl, nr, f, want, near, ar, rfl, R3.D, R3.N, by omega, R.okn, fun v4 H4 t k4 D4 t4 g4 z4 => ?_⟩
    exact q v4 H4 t f (k03.trans k4) D4 t4 (by have g4 := g4 (near.map Prod.fst) fun z hz => List.mem_map_of_mem hz; exact ⟨g4.ok, g4.dep.up (by omega), g4.snd⟩) (by rw [z4]; omega) (by omega)
  refine r_no (by cases gs <;> simp at hne ⊢) ?_
  have pos : 1 ≤ gs.length := by
    cases gs with
    | nil => exact absurd rfl hne
    | cons _ _ => simp
  walk_at "rr"
  refine r_len_l hds3 ?_
  walk_at "rr"
  have nDs' : Ds ∉ [dl, wl] := by simp [Ne.symm nDs.1, Ne.symm nDs.2]
  refine ⟨dl, acc.length, rfl, R3.D.dr, by omega, by omega, fun m H4 hm k4 dr4 => ?_⟩
  have D4 := R3.D.drawn k4 dr4
  have k4' : Kp [dl, wl] H3 H4 := k4.mono (by simp)
  have R4 := R3.mono k4' D4 (Nat.le_refl n)
  have hmg : gs[m]? = some gs[m] := List.getElem?_eq_getElem (by omega)
  obtain ⟨hvv, hvm, hvd, hin⟩ := (hgs3.mono k4').get hmg
  obtain ⟨pp, qq, rfl, g2, g3, g4⟩ := id hvd
  generalize hg0 : gs[m] = g at *
  obtain ⟨a1, a2, a3, a4, a5⟩ := R.E.har g hin
  have hgno := hno g (by rw [← hg0]; exact List.getElem_mem _)
  refine r_ixL (k4'.at hds3 nDs') m hvm ?_
  walk_at "rr"
  refine ⟨wl, nl, hl, f, rfl, D4.wy, fun p plv H5 k5 w5 okp tp => ?_⟩
  have D5 := D4.placed k5 w5
  have k5' : Kp [dl, wl] H4 H5 := k5.mono (by simp)
  have R5 := R4.mono k5' D5 (Nat.le_refl n)
  have g3' := k5'.at g3 g4
  have g2' := k5'.atT g2
  have k05 := k03.trans (k4'.trans k5')
  walk_at "rr"
  refine .inr (.inl ⟨pp, _, 0, _, rfl, rfl, SqT.of g2', rfl, ?_⟩)
  walk_at "rr"
  refine .inr (.inl ⟨pp, _, 1, _, rfl, rfl, SqT.of g2', rfl, ?_⟩)
  walk_at "r"
  refine ⟨⟨_, SqL.of g3'⟩, ?_⟩
  refine lcW (walk_list (xs := g.2.1.map V.str)) (by rw [List.length_map]; omega) [dl, wl] (fun j acc H' => ∃ (ts : List Tree) (f' : Int), Dw H' dl wl f' nl hl ∧ TDs H' acc (ts.map tr) ∧ ts.length = j ∧ (∀ t ∈ ts, Gd ar (near.map Prod.fst) (n + 1) t) ∧ ((szs ts : Nat) : Int) = f - f' ∧ 3 - 2 * (n : Int) - (j : Int) ≤ f')
    (fun H6 k6 => SqL.of (k6.at g3' g4)) (fun D0 H6 _ k6 => ⟨[], f, D5.mono k6 ni0 ni0, .nil, rfl, by simp, by simp [szs], by omega⟩) ?_ ?_
  · rintro j z D0 acc6 H6 H7 hj hD hl6 k6 hdd ⟨ts6, f6, D6, t6, tl6, tg6, tz6, tf6⟩ ⟨rfl, hz⟩
    rw [List.getElem?_map] at hz
    obtain ⟨kz, hkz, rfl⟩ := Option.map_eq_some_iff.mp hz
    rw [List.length_map] at hj
    have nD0 := D5.new hD
    have nD0' : D0 ∉ [dl, wl] := by simp [Ne.symm nD0.1, Ne.symm nD0.2]
    walk_at "rr"
    refine ⟨rfl, ?_⟩
    walk_at "rr"
    refine r_yes rfl ?_
    walk_at "rr"
    rw [ed]
    refine ⟨dl, wl, nl, hl, nr, f6, kz, names, hs, ar, near, rfl, R5.mono k6 D6 (Nat.le_refl n), hn, fun tv Ha ta fa ka Da tla ga za ba => ?_⟩
    refine lc_fin hD (by omega) hl6 (k6.trans ka) (ka.at hdd nD0') fun Hb kb => ⟨ts6 ++ [ta], fa, Da.mono kb (ni1 nD0.1) (ni1 nD0.2), ?_, by simp [tl6], fun t ht => ?_, ?_, by omega⟩
    · rw [List.map_append]
      exact ((t6.mono ka).snoc tla).mono kb
    · rcases List.mem_append.mp ht with ht | ht
      · exact tg6 t ht
      · rw [List.mem_singleton.mp ht]
        exact ga
    · have : szs (ts6 ++ [ta]) = szs ts6 + sz ta := by
        clear tz6 tg6 tl6 t6
        induction ts6 with
        | nil => simp [szs]
        | cons u us ih => simp [szs, ih]; omega
      rw [this]
      omega
  rintro D0 acc6 H6 hD hl6 k6 hdd ⟨ts6, f6, D6, t6, tl6, tg6, tz6, tf6⟩
  rw [List.length_map] at tl6 tf6
  walk_at "rr"
  refine r_tuple_l hdd t6 fun y H7 k7 t7 => ?_
  walk_at "rr"
  refine ⟨by simp, fun p8 H8 k8 n8 e8 => ?_⟩
  have hsub : Tree.subs (.use p g.1 ts6) = ts6 := rfl
  refine q _ H8 (.use p g.1 ts6) f6 (k05.trans (k6.trans ((k7.mono (by simp)).trans (k8.mono (by simp))))) ((D6.mono k7 ni0 ni0).mono k8 ni0 ni0) ?_ ⟨.mk ⟨okp, a1, by omega⟩ fun s hs => (tg6 s hs).ok, .mk fun s hs => (tg6 s hs).dep, .mk (.inr ⟨hgno, by rw [a3, tl6]⟩) fun qq hq => ?_⟩ (by simp [sz]; omega) (by omega)
  · rw [tr_use]
    exact TD.mk e8 (.cons (.str _) (.cons (((tp.mono k6).mono k7).mono k8) (.cons (.str _) (.cons (t7.mono k8) .nil))))
  · simp [scop, hsub] at hq
    obtain ⟨s, hs, rfl⟩ := hq
    exact (tg6 s hs).snd
end
section
variable {P : Program} {w : World} {K : PySem.W.Frag} {mg : Str → Option Value} {base : Heap}
theorem WyAt.inv {H : Hp} {l nl hl : Addr} {f : Int} (h : WyAt H l f nl hl) : ∃ (a s : Int) (wr : Nat), H l = some (.lst [.int a, .int s, .int f, .ref nl, .ref hl, .int (wr : Int)]) ∧ wr ≤ 1000 := h
theorem NeAt.snoc {H H' : Hp} {p : Addr} {near more : List (Str × Str)} {xs zs : List V} (k : Kp [] H H') (h : TDs H xs (near.map fun q => .tuple [.str q.1, .str q.2])) (g : TDs H zs (more.map fun q => .tuple [.str q.1, .str q.2])) (e : H' p = some (.lst (xs ++ zs))) : NeAt H' p (near ++ more) := by
  refine ⟨_, e, ?_⟩
  rw [List.map_append]
  exact (h.append g).mono k
theorem sc__law_tree : FnScope ["draws", "way", "want", "near", "deep", "form", "place", "test", "yes", "first", "name", "kind", "worth", "tail", "what", "empty", "body"] ["draws", "way", "want", "near", "deep"] (defScope s__law_tree) := ⟨rfl, rfl, rfl, by decide +kernel, rfl, by decide +kernel, by decide +kernel⟩
theorem c_law_tree1 {n : Nat} (T : Txt K mg) (C__law_draw : Cal P w K mg base 1 "_law_draw" ["draws", "many"] sp_law_draw) (C__law_place : Cal P w K mg base 1 "_law_place" ["way"] sp_law_place) (C__law_leaf : Cal P w K mg base 2 "_law_leaf" ["draws", "way", "want", "near"] sp_law_leaf) (C__law_op : Cal P w K mg base (2 * n + 4) "_law_op" ["draws", "way", "want", "near", "deep"] (sp_law_big n)) (C__law_call : Cal P w K mg base (2 * n + 4) "_law_call" ["draws", "way", "want", "near", "deep"] (sp_law_big n))
    (C__law_tree : Cal P w K mg base (2 * n + 3) "_law_tree" ["draws", "way", "want", "near", "deep"] (sp_law_tree n)) : Cal P w K mg base (2 * n + 5) "_law_tree" ["draws", "way", "want", "near", "deep"] (sp_law_tree (n + 1)) := by
  obtain ⟨fd, F⟩ := T.F__law_tree
  refine mk_cal F T.g__law_tree (fun _ _ _ _ _ _ us hl => match us, hl with | [_, _, _, _, _], _ => rfl) (mk_ok F sc__law_tree (by walk_at "len") fun cdv A outer s H vs Q E hr h => ?_)
  obtain ⟨dl, wl, nl, hl, nr, f, want, names, hs, ar, near, rfl, R, _, q⟩ := h
  refine ⟨_, (pss_cons (ps_asg (pe_op op_sub (pe_ix (ix_seqK (K := K) rfl) (pv 1) pe_int (fun _ _ => rfl)) pe_int) (pg_sub (pv 1) pe_int set_list)) (C8.pss_cut (ps_if (PW.pt (pw_and (pt_cmpR op_gt (pe_ix (ix_seqK (K := K) rfl) (pv 1) pe_int (fun _ _ => rfl)) pe_int (nomark _)) (pw_and1 (pt_cmpR (op_eqXK (K := K) hr rfl) (pe_cal C__law_draw hr (pa_cons (pv 0) (pa_cons (pe_ix (ix_seqK (K := K) rfl) (pv 1) pe_int (fun _ _ => rfl)) pa_nil))) pe_int (nomark _))))) (pss_one (ps_set (i := 2) sc__law_tree.nd rfl (by first | exact Or.inl rfl | exact Or.inr rfl) (pe_ix (ix_seqK (K := K) rfl) (pe_lstK (pa_cons pe_str (pa_cons pe_str pa_nil))) (pe_callTy call_int1 (by rfl) T.b_int (by decide +kernel) (pa_cons (pe_cmpR (op_eqXK (K := K) hr rfl) (pv 2) pe_str (nomark _)) pa_nil)) (fun _ _ => rfl)))) pss_nil) (pss_cons (ps_set (i := 5) sc__law_tree.nd rfl (by first | exact Or.inl rfl | exact Or.inr rfl) (pe_cal C__law_draw hr (pa_cons (pv 0) (pa_cons pe_int pa_nil)))) (pss_cons (ps_if (PW.pt (pw_or (pt_cmpR op_lt (pv 4) pe_int (nomark _)) (pw_or (pt_cmpR op_lt (pe_ix (ix_seqK (K := K) rfl) (pv 1) pe_int (fun _ _ => rfl)) pe_int (nomark _)) (pw_or1 (pt_cmpR (op_eqXK (K := K) hr rfl) (pv 5) pe_int (nomark _)))))) (pss_one (ps_ret (pe_cal C__law_leaf hr (pa_cons (pv 0) (pa_cons (pv 1) (pa_cons (pv 2) (pa_cons (pv 3) pa_nil))))))) pss_nil) (pss_cons (ps_if (pt_cmpR op_lt (pv 5) pe_int (nomark _)) (pss_one (ps_ret (pe_cal C__law_op hr (pa_cons (pv 0) (pa_cons (pv 1) (pa_cons (pv 2) (pa_cons (pv 3) (pa_cons (pv 4) pa_nil)))))))) pss_nil) (pss_cons (ps_if (pt_cmpR op_lt (pv 5) pe_int (nomark _)) (pss_one (ps_ret (pe_cal C__law_call hr (pa_cons (pv 0) (pa_cons (pv 1) (pa_cons (pv 2) (pa_cons (pv 3) (pa_cons (pv 4) pa_nil)))))))) pss_nil) (pss_cons (ps_set (i := 6) sc__law_tree.nd rfl (by first | exact Or.inl rfl | exact Or.inr rfl) (pe_cal C__law_place hr (pa_cons (pv 1) pa_nil))) (pss_cons (ps_if (pt_cmpR (op_eqXK (K := K) hr rfl) (pv 5) pe_int (nomark _)) (pss_cons (ps_set (i := 7) sc__law_tree.nd rfl (by first | exact Or.inl rfl | exact Or.inr rfl) (pe_cal C__law_tree hr (pa_cons (pv 0) (pa_cons (pv 1) (pa_cons pe_str (pa_cons (pv 3) (pa_cons (pe_op op_sub (pv 4) pe_int) pa_nil))))))) (pss_cons (ps_set (i := 8) sc__law_tree.nd rfl (by first | exact Or.inl rfl | exact Or.inr rfl) (pe_cal C__law_tree hr (pa_cons (pv 0) (pa_cons (pv 1) (pa_cons (pv 2) (pa_cons (pv 3) (pa_cons (pe_op op_sub (pv 4) pe_int) pa_nil))))))) (pss_one (ps_ret (pe_tupK (pa_cons pe_str (pa_cons (pv 6) (pa_cons (pv 7) (pa_cons (pv 8) (pa_cons (pe_cal C__law_tree hr (pa_cons (pv 0) (pa_cons (pv 1) (pa_cons (pv 2) (pa_cons (pv 3) (pa_cons (pe_op op_sub (pv 4) pe_int) pa_nil)))))) pa_nil)))))))))) pss_nil) (pss_cons (ps_set (i := 9) sc__law_tree.nd rfl (by first | exact Or.inl rfl | exact Or.inr rfl) (pe_cal C__law_draw hr (pa_cons (pv 0) (pa_cons (pe_callB (call_lenKK (K := K) rfl) (by rfl) T.b_len PySem.boot_len (pa_cons (pe_ix (ix_seqK (K := K) rfl) (pv 1) pe_int (fun _ _ => rfl)) pa_nil)) pa_nil)))) (pss_cons (ps_set (i := 10) sc__law_tree.nd rfl (by first | exact Or.inl rfl | exact Or.inr rfl) (pe_ix (ix_seqK (K := K) rfl) (pe_ix (ix_seqK (K := K) rfl) (pv 1) pe_int (fun _ _ => rfl)) (pv 9) (fun _ _ => rfl))) (pss_cons (ps_if (pt_cmpR (op_eqXK (K := K) hr rfl) (pv 5) pe_int (nomark _)) (pss_cons (ps_set (i := 11) sc__law_tree.nd rfl (by first | exact Or.inl rfl | exact Or.inr rfl) (pe_ix (ix_seqK (K := K) rfl) (pe_lstK (pa_cons pe_str (pa_cons pe_str pa_nil))) (pe_cal C__law_draw hr (pa_cons (pv 0) (pa_cons pe_int pa_nil))) (fun _ _ => rfl))) (pss_cons (ps_set (i := 12) sc__law_tree.nd rfl (by first | exact Or.inl rfl | exact Or.inr rfl) (pe_cal C__law_tree hr (pa_cons (pv 0) (pa_cons (pv 1) (pa_cons (pv 11) (pa_cons (pv 3) (pa_cons (pe_op op_sub (pv 4) pe_int) pa_nil))))))) (pss_one (ps_ret (pe_tupK (pa_cons pe_str (pa_cons (pv 6) (pa_cons (pv 10) (pa_cons (pv 12) (pa_cons (pe_cal C__law_tree hr (pa_cons (pv 0) (pa_cons (pv 1) (pa_cons (pv 2) (pa_cons (pe_op op_catK (pv 3) (pe_lstK (pa_cons (pe_tupK (pa_cons (pv 10) (pa_cons (pv 11) pa_nil))) pa_nil))) (pa_cons (pe_op op_sub (pv 4) pe_int) pa_nil)))))) pa_nil)))))))))) pss_nil) (pss_cons (ps_set (i := 13) sc__law_tree.nd rfl (by first | exact Or.inl rfl | exact Or.inr rfl) (pe_ix (ix_seqK (K := K) rfl) (pe_ix (ix_seqK (K := K) rfl) (pv 1) pe_int (fun _ _ => rfl)) (pe_op op_mod (pe_op op_add (pe_op op_add (pv 9) pe_int) (pe_cal C__law_draw hr (pa_cons (pv 0) (pa_cons (pe_op op_sub (pe_callB (call_lenKK (K := K) rfl) (by rfl) T.b_len PySem.boot_len (pa_cons (pe_ix (ix_seqK (K := K) rfl) (pv 1) pe_int (fun _ _ => rfl)) pa_nil)) pe_int) pa_nil)))) (pe_callB (call_lenKK (K := K) rfl) (by rfl) T.b_len PySem.boot_len (pa_cons (pe_ix (ix_seqK (K := K) rfl) (pv 1) pe_int (fun _ _ => rfl)) pa_nil))) (fun _ _ => rfl))) (pss_cons (ps_set (i := 14) sc__law_tree.nd rfl (by first | exact Or.inl rfl | exact Or.inr rfl) (pe_cal C__law_tree hr (pa_cons (pv 0) (pa_cons (pv 1) (pa_cons pe_str (pa_cons (pv 3) (pa_cons (pe_op op_sub (pv 4) pe_int) pa_nil))))))) (pss_cons (ps_set (i := 15) sc__law_tree.nd rfl (by first | exact Or.inl rfl | exact Or.inr rfl) (pe_cal C__law_tree hr (pa_cons (pv 0) (pa_cons (pv 1) (pa_cons (pv 2) (pa_cons (pv 3) (pa_cons (pe_op op_sub (pv 4) pe_int) pa_nil))))))) (pss_cons (ps_set (i := 16) sc__law_tree.nd rfl (by first | exact Or.inl rfl | exact Or.inr rfl) (pe_cal C__law_tree hr (pa_cons (pv 0) (pa_cons (pv 1) (pa_cons (pv 2) (pa_cons (pe_op op_catK (pv 3) (pe_lstK (pa_cons (pe_tupK (pa_cons (pv 10) (pa_cons pe_str pa_nil))) (pa_cons (pe_tupK (pa_cons (pv 13) (pa_cons pe_str pa_nil))) pa_nil)))) (pa_cons (pe_op op_sub (pv 4) pe_int) pa_nil))))))) (pss_one (ps_ret (pe_tupK (pa_cons pe_str (pa_cons (pv 6) (pa_cons (pv 14) (pa_cons (pv 15) (pa_cons (pv 10) (pa_cons (pv 13) (pa_cons (pv 16) pa_nil))))))))))))))))))))))))), ?_⟩
  have ed : (((n + 1 : Nat) : Int) - 1) = (n : Int) := by omega
  have hroom := R.room
  obtain ⟨aw, sw, wr, hw1, hwr⟩ := R.D.wy
  walk_at "rr"
  refine r_ixL hw1 2 rfl ?_
  walk_at "rr"
  refine r_setL (n := 2) hw1 (by simp) fun H1 k1 e1 => ?_
  have w1 : WyAt H1 wl (f - 1) nl hl := ⟨aw, sw, wr, e1, hwr⟩
  have D1 := R.D.placed k1 w1
  have k01 : Kp [dl, wl] H H1 := k1.mono (by simp)
  walk_at "rr"
  refine r_cut (fun σ H' => ∃ want', σ = [some (.ref dl), some (.ref wl), some (.str want'), some (.ref nr), some (.int ((n + 1 : Nat) : Int)), none, none, none, none, none, none, none, none, none, none, none, none] ∧ Kp [dl, wl] H H' ∧ Dw H' dl wl (f - 1) nl hl) ?_ ?_
  · walk_at "rr"
    refine r_ixL e1 5 rfl ?_
    walk_at "rr"
    by_cases hwr0 : 0 < wr
    · refine r_yes (decide_eq_true (by omega)) ?_
      walk_at "rr"
      refine r_ixL e1 5 rfl ?_
      walk_at "rr"
      refine ⟨dl, wr, rfl, D1.dr, by omega, hwr, fun m H2 hm k2 dr2 => ?_⟩
      have D2 := D1.drawn k2 dr2
      have k02 : Kp [dl, wl] H H2 := k01.trans (k2.mono (by simp))
      walk_at "rr"
      by_cases hm0 : m = 0
      · refine r_yes (by simp [hm0]) ?_
        walk_at "rr"
        refine ⟨by simp, fun p3 H3 k3 n3 e3 => ?_⟩
        walk_at "rr"
        refine .inr ⟨_, rfl, ?_⟩
        have pick : ∃ (i : Nat) (s : Str), (if decide (want = "n") = true then (1 : Int) else 0) = (i : Int) ∧ ([V.str "n", V.str "l"] : List V)[i]? = some (.str s) := by
          by_cases h : want = "n"
          · exact ⟨1, "l", by simp [h], rfl⟩
          · exact ⟨0, "n", by simp [h], rfl⟩
        obtain ⟨i, s, hi, hx⟩ := pick
        rw [hi]
        refine r_ixL e3 i hx ?_
        walk_at "rr"
        exact ⟨s, rfl, k02.trans (k3.mono (by simp)), D2.mono k3 ni0 ni0⟩
      · refine r_no (by simp; omega) ?_
        walk_at "rr"
        exact ⟨want, rfl, k02, D2⟩
    · refine r_no (decide_eq_false (by omega)) ?_
      refine r_no rfl ?_
      walk_at "rr"
      exact ⟨want, rfl, k01, D1⟩
  rintro σ H2 ⟨want', rfl, k02, D2⟩
  walk_at "rr"
  refine ⟨dl, 10, rfl, D2.dr, by decide, by decide, fun form H3 hform k3 dr3 => ?_⟩
  have D3 := D2.drawn k3 dr3
  have k03 : Kp [dl, wl] H H3 := k02.trans (k3.mono (by simp))
  have R3 := R.mono k03 D3 (Nat.le_refl (n + 1))
  have R3n := R.mono k03 D3 (Nat.le_succ n)
  obtain ⟨a3, s3, wr3, hw3, _⟩ := D3.wy.inv
  walk_at "rr"
  have leaf : ∀ (want' : Str) (v : V) (H4 : Hp) (t : Tree), Kp [dl, wl] H3 H4 → Dw H4 dl wl (f - 1) nl hl → TD H4 v (tr t) → Gd ar (near.map Prod.fst) 1 t → sz t = 1 → Q v H4 := fun _ v H4 t k4 D4 t4 g4 z4 => q v H4 t (f - 1) (k03.trans k4) D4 t4 ⟨g4.ok, g4.dep.up (by omega), g4.snd⟩ (by rw [z4]; omega) (by omega)
  have okn : ∀ z ∈ near, okName z.1 := R.okn
  by_cases h1 : n = 0
  · refine r_yes (decide_eq_true (by omega)) ?_
    refine r_yes rfl ?_
    walk_at "rr"
    refine ⟨dl, wl, nl, hl, nr, f - 1, want', near, ar, rfl, R3.D, R3.N, by omega, okn, fun v H4 t k4 D4 t4 g4 z4 => leaf want' v H4 t k4 D4 t4 (g4 (near.map Prod.fst) fun z hz => List.mem_map_of_mem hz) z4⟩
  refine r_no (decide_eq_false (by omega)) ?_
  walk_at "rr"
  refine r_ixL hw3 2 rfl ?_
  walk_at "rr"
  by_cases h2 : f - 1 < 1
  · refine r_yes (decide_eq_true h2) ?_
    refine r_yes rfl ?_
    walk_at "rr"
    refine ⟨dl, wl, nl, hl, nr, f - 1, want', near, ar, rfl, R3.D, R3.N, by omega, okn, fun v H4 t k4 D4 t4 g4 z4 => leaf want' v H4 t k4 D4 t4 (g4 (near.map Prod.fst) fun z hz => List.mem_map_of_mem hz) z4⟩
  refine r_no (decide_eq_false h2) ?_
  walk_at "rr"
  by_cases h3 : form = 0
  · refine r_yes (by simp [h3]) ?_
    walk_at "rr"
    refine ⟨dl, wl, nl, hl, nr, f - 1, want', near, ar, rfl, R3.D, R3.N, by omega, okn, fun v H4 t k4 D4 t4 g4 z4 => leaf want' v H4 t k4 D4 t4 (g4 (near.map Prod.fst) fun z hz => List.mem_map_of_mem hz) z4⟩
  refine r_no (by simp; omega) ?_
  walk_at "rr"
  by_cases h4 : form < 4
  · refine r_yes (decide_eq_true (by omega)) ?_
    walk_at "rr"
    refine ⟨dl, wl, nl, hl, nr, f - 1, want', names, hs, ar, near, rfl, R3n, by omega, by omega, fun v H4 t f' k4 D4 t4 g4 z4 b4 => q v H4 t f' (k03.trans k4) D4 t4 g4 (by omega) (by omega)⟩
  refine r_no (decide_eq_false (by omega)) ?_
  walk_at "rr"
  by_cases h6 : form < 6
  · refine r_yes (decide_eq_true (by omega)) ?_
    walk_at "rr"
    refine ⟨dl, wl, nl, hl, nr, f - 1, want', names, hs, ar, near, rfl, R3n, by omega, by omega, fun v H4 t f' k4 D4 t4 g4 z4 b4 => q v H4 t f' (k03.trans k4) D4 t4 g4 (by omega) (by omega)⟩
  refine r_no (decide_eq_false (by omega)) ?_
  walk_at "rr"
  refine ⟨wl, nl, hl, f - 1, rfl, D3.wy, fun p plv H4 k4 w4 okp tp => ?_⟩
  have D4 := D3.placed k4 w4
  have k4' : Kp [dl, wl] H3 H4 := k4.mono (by simp)
  have k04 := k03.trans k4'
  have R4 := R3n.mono k4' D4 (Nat.le_refl n)
  walk_at "rr"
  by_cases h7 : form = 6
  · refine r_yes (by simp [h7]) ?_
    walk_at "rr"
    rw [ed]
    refine ⟨dl, wl, nl, hl, nr, f - 1, _, names, hs, ar, near, rfl, R4, by omega, fun av Ha ta fa ka Da tla ga za ba => ?_⟩
    walk_at "rr"
    rw [ed]
    have Ra := R4.mono ka Da (Nat.le_refl n)
    refine ⟨dl, wl, nl, hl, nr, fa, _, names, hs, ar, near, rfl, Ra, by omega, fun bv Hb tb fb kb Db tlb gb zb bb => ?_⟩
    walk_at "rr"
    rw [ed]
    have Rb := Ra.mono kb Db (Nat.le_refl n)
    refine ⟨dl, wl, nl, hl, nr, fb, _, names, hs, ar, near, rfl, Rb, by omega, fun cv Hc tc fc kc Dc tlc gc zc bc => ?_⟩
    refine ⟨by simp, fun pd Hd' kd' nd' ed' => ?_⟩
    have kk : Kp [dl, wl] H4 Hd' := ka.trans (kb.trans (kc.trans (kd'.mono (by simp))))
    have hsub : ∀ s ∈ (Tree.ite p ta tb tc).subs, s = ta ∨ s = tb ∨ s = tc := fun s hs => by simpa [Tree.subs] using hs
    refine q _ Hd' (.ite p ta tb tc) fc (k04.trans kk) (Dc.mono kd' ni0 ni0) ?_ ⟨.mk okp fun s hs => ?_, .mk fun s hs => ?_, .mk trivial fun s hs => ?_⟩ (by simp [sz]; omega) (by omega)
    · rw [tr_ite]
      exact TD.mk ed' (.cons (.str _) (.cons (tp.mono kk) (.cons (((tla.mono kb).mono kc).mono kd') (.cons ((tlb.mono kc).mono kd') (.cons (tlc.mono kd') .nil)))))
    · rcases hsub s hs with rfl | rfl | rfl
      · exact ga.ok
      · exact gb.ok
      · exact gc.ok
    · rcases hsub s hs with rfl | rfl | rfl
      · exact ga.dep
      · exact gb.dep
      · exact gc.dep
    · simp [scop, Tree.subs] at hs
      rcases hs with rfl | rfl | rfl
      · exact ga.snd
      · exact gb.snd
      · exact gc.snd
  refine r_no (by simp; omega) ?_
  walk_at "rr"
  obtain ⟨a4, s4, wr4, hw4, _⟩ := D4.wy.inv
  have nm4 := R4.E.nm
  have e8 := R4.E.eight
  refine r_ixL hw4 3 rfl ?_
  walk_at "rr"
  refine r_len_l nm4 ?_
  rw [List.length_map, e8]
  walk_at "rr"
  refine ⟨dl, 8, rfl, D4.dr, by decide, by decide, fun i5 H5 hi5 k5 dr5 => ?_⟩
  have D5 := D4.drawn k5 dr5
  have k5' : Kp [dl, wl] H4 H5 := k5.mono (by simp)
  have R5 := R4.mono k5' D5 (Nat.le_refl n)
  have k05 := k04.trans k5'
  obtain ⟨a5, s5, wr5, hw5, _⟩ := D5.wy.inv
  have hx5 : names[i5]? = some names[i5] := List.getElem?_eq_getElem (by omega)
  have okx := R5.E.nmok _ (List.mem_of_getElem? hx5)
  walk_at "rr"
  refine r_ixL hw5 3 rfl ?_
  walk_at "rr"
  refine r_ixL R5.E.nm i5 (y := .str names[i5]) (by rw [List.getElem?_map, hx5]; rfl) ?_
  generalize hnx : names[i5] = x at *
  walk_at "rr"
  by_cases h8 : form = 7
  · refine r_yes (by simp [h8]) ?_
    walk_at "rr"
    refine ⟨by simp, fun p6 H6 k6 n6 e6 => ?_⟩
    have D6 := D5.mono k6 ni0 ni0
    walk_at "rr"
    refine ⟨dl, 2, rfl, D6.dr, by decide, by decide, fun i7 H7 hi7 k7 dr7 => ?_⟩
    have D7 := D6.drawn k7 dr7
    have k57 : Kp [dl, wl] H5 H7 := (k6.mono (by simp)).trans (k7.mono (by simp))
    have R7 := R5.mono k57 D7 (Nat.le_refl n)
    obtain ⟨kd7, hk7⟩ : ∃ s : Str, ([V.str "n", V.str "l"] : List V)[i7]? = some (.str s) := by
      match i7, hi7 with
      | 0, _ => exact ⟨"n", rfl⟩
      | 1, _ => exact ⟨"l", rfl⟩
    refine r_ixL (k7.at e6 (ni1 (Ne.symm (D5.new n6).1))) i7 hk7 ?_
    walk_at "rr"
    rw [ed]
    refine ⟨dl, wl, nl, hl, nr, f - 1, _, names, hs, ar, near, rfl, R7, by omega, fun av Ha ta fa ka Da tla ga za ba => ?_⟩
    have Ra := R7.mono ka Da (Nat.le_refl n)
    walk_at "rr"
    refine ⟨by simp, fun p8 H8 k8 n8 e8' => ?_⟩
    walk_at "rr"
    refine ⟨by simp, fun p9 H9 k9 n9 e9 => ?_⟩
    have k89 := k8.trans k9
    have D9 := Da.mono k89 ni0 ni0
    have R9 := Ra.mono (k89.mono (by simp)) D9 (Nat.le_refl n)
    obtain ⟨xs9, hx9, ts9⟩ := id R9.N
    have hxl9 : xs9.length = near.length := by rw [ts9.1, List.length_map]
    refine ⟨nr, p9, xs9, _, rfl, rfl, hx9, e9, by simp; omega, fun p10 H10 k10 n10 e10 => ?_⟩
    have D10 := D9.mono k10 ni0 ni0
    have new10 := D9.new n10
    have N10 : NeAt H10 p10 (near ++ [(x, kd7)]) := NeAt.snoc k10 ts9 (.one (TD.mk (k9.atT e8') (.cons (.str _) (.cons (.str _) .nil)))) e10
    have R10 : Rd' H10 dl wl nl hl p10 fa names hs ar (near ++ [(x, kd7)]) n := ⟨D10, R9.E.mono (k10.mono (by simp)), N10, by simp [Ne.symm new10.1, Ne.symm new10.2], by simp; omega, fun z hz => by
      rcases List.mem_append.mp hz with hz | hz
      · exact okn z hz
      · rw [List.mem_singleton.mp hz]
        exact okx⟩
    walk_at "rr"
    rw [ed]
    refine ⟨dl, wl, nl, hl, p10, fa, _, names, hs, ar, _, rfl, R10, by omega, fun bv Hb tb fb kb Db tlb gb zb bb => ?_⟩
    refine ⟨by simp, fun pd Hd' kd' nd' ed' => ?_⟩
    have ka' : Kp [dl, wl] Ha Hd' := (k89.mono (by simp)).trans ((k10.mono (by simp)).trans (kb.trans (kd'.mono (by simp))))
    have kk : Kp [dl, wl] H5 Hd' := k57.trans (ka.trans ka')
    refine q _ Hd' (.lt p x ta tb) fb (k05.trans kk) (Db.mono kd' ni0 ni0) ?_ ⟨.mk ⟨okp, okx⟩ fun s hs => ?_, .mk fun s hs => ?_, .mk trivial fun s hs => ?_⟩ (by simp [sz]; omega) (by omega)
    · rw [tr_lt]
      exact TD.mk ed' (.cons (.str _) (.cons ((tp.mono k5').mono kk) (.cons (.str _) (.cons (tla.mono ka') (.cons (tlb.mono kd') .nil)))))
    · simp [Tree.subs] at hs
      rcases hs with rfl | rfl
      · exact ga.ok
      · exact gb.ok
    · simp [Tree.subs] at hs
      rcases hs with rfl | rfl
      · exact ga.dep
      · exact gb.dep
    · simp [scop] at hs
      rcases hs with rfl | rfl
      · exact ga.snd
      · have := gb.snd
        rw [List.map_append] at this
        exact this
  refine r_no (by simp; omega) ?_
  walk_at "rr"
  refine r_ixL hw5 3 rfl ?_
  walk_at "rr"
  refine r_ixL hw5 3 rfl ?_
  walk_at "rr"
  refine r_len_l R5.E.nm ?_
  rw [List.length_map, e8]
  walk_at "rr"
  refine ⟨dl, 7, rfl, D5.dr, by decide, by decide, fun i6 H6 hi6 k6 dr6 => ?_⟩
  have D6 := D5.drawn k6 dr6
  have k6' : Kp [dl, wl] H5 H6 := k6.mono (by simp)
  have R6 := R5.mono k6' D6 (Nat.le_refl n)
  obtain ⟨a6, s6, wr6, hw6, _⟩ := D6.wy.inv
  walk_at "rr"
  refine r_ixL hw6 3 rfl ?_
  walk_at "rr"
  refine r_len_l R6.E.nm ?_
  rw [List.length_map, e8]
  refine r_I (by decide) ?_
  have ei : ((i5 : Int) + 1 + (i6 : Int)) % ((8 : Nat) : Int) = (((i5 + 1 + i6) % 8 : Nat) : Int) := by omega
  rw [ei]
  have hj8 : (i5 + 1 + i6) % 8 < 8 := Nat.mod_lt _ (by decide)
  have hne : (i5 + 1 + i6) % 8 ≠ i5 := by omega
  have hx6 : names[(i5 + 1 + i6) % 8]? = some names[(i5 + 1 + i6) % 8] := List.getElem?_eq_getElem (by omega)
  have oky := R5.E.nmok _ (List.mem_of_getElem? hx6)
  have hxy : x ≠ names[(i5 + 1 + i6) % 8] := fun e => by
    rw [← hnx] at e
    exact hne ((List.getElem_inj R5.E.nd (h₀ := by omega) (h₁ := by omega)).mp e).symm
  refine r_ixL R6.E.nm _ (y := .str names[(i5 + 1 + i6) % 8]) (by rw [List.getElem?_map, hx6]; rfl) ?_
  generalize hny : names[(i5 + 1 + i6) % 8] = y at *
  walk_at "rr"
  rw [ed]
  refine ⟨dl, wl, nl, hl, nr, f - 1, _, names, hs, ar, near, rfl, R6, by omega, fun av Ha ta fa ka Da tla ga za ba => ?_⟩
  have Ra := R6.mono ka Da (Nat.le_refl n)
  walk_at "rr"
  rw [ed]
  refine ⟨dl, wl, nl, hl, nr, fa, _, names, hs, ar, near, rfl, Ra, by omega, fun ev Hb te fb kb Db tle ge ze be => ?_⟩
  have Rb := Ra.mono kb Db (Nat.le_refl n)
  walk_at "rr"
  refine ⟨by simp, fun p7 H7 k7 n7 e7 => ?_⟩
  walk_at "rr"
  refine ⟨by simp, fun p8 H8 k8 n8 e8' => ?_⟩
  walk_at "rr"
  refine ⟨by simp, fun p9 H9 k9 n9 e9 => ?_⟩
  have k79 := k7.trans (k8.trans k9)
  have D9 := Db.mono k79 ni0 ni0
  have R9 := Rb.mono (k79.mono (by simp)) D9 (Nat.le_refl n)
  obtain ⟨xs9, hx9, ts9⟩ := id R9.N
  have hxl9 : xs9.length = near.length := by rw [ts9.1, List.length_map]
  refine ⟨nr, p9, xs9, _, rfl, rfl, hx9, e9, by simp; omega, fun p10 H10 k10 n10 e10 => ?_⟩
  have D10 := D9.mono k10 ni0 ni0
  have new10 := D9.new n10
  have N10 : NeAt H10 p10 (near ++ [(x, ("n" : Str)), (y, ("l" : Str))]) := NeAt.snoc (more := [(x, ("n" : Str)), (y, ("l" : Str))]) k10 ts9 (.cons (TD.mk (k9.atT (k8.atT e7)) (.cons (.str _) (.cons (.str _) .nil))) (.one (TD.mk (k9.atT e8') (.cons (.str _) (.cons (.str _) .nil))))) e10
  have R10 : Rd' H10 dl wl nl hl p10 fb names hs ar (near ++ [(x, ("n" : Str)), (y, ("l" : Str))]) n := ⟨D10, R9.E.mono (k10.mono (by simp)), N10, by simp [Ne.symm new10.1, Ne.symm new10.2], by simp; omega, fun z hz => by
    rcases List.mem_append.mp hz with hz | hz
    · exact okn z hz
    · simp at hz
      rcases hz with rfl | rfl
      · exact okx
      · exact oky⟩
  walk_at "rr"
  rw [ed]
  refine ⟨dl, wl, nl, hl, p10, fb, _, names, hs, ar, _, rfl, R10, by omega, fun bv Hc tb fc kc Dc tlb gb zb bb => ?_⟩
  walk_at "rr"
  refine ⟨by simp, fun pd Hd' kd' nd' ed' => ?_⟩
  have kb' : Kp [dl, wl] Hb Hd' := (k79.mono (by simp)).trans ((k10.mono (by simp)).trans (kc.trans (kd'.mono (by simp))))
  have kk : Kp [dl, wl] H5 Hd' := k6'.trans (ka.trans (kb.trans kb'))
  refine q _ Hd' (.cs p ta te x y tb) fc (k05.trans kk) (Dc.mono kd' ni0 ni0) ?_ ⟨.mk ⟨okp, okx, oky⟩ fun s hs => ?_, .mk fun s hs => ?_, .mk hxy fun s hs => ?_⟩ (by simp [sz]; omega) (by omega)
  · rw [tr_cs]
    exact TD.mk ed' (.cons (.str _) (.cons ((tp.mono k5').mono kk) (.cons ((tla.mono kb).mono kb') (.cons (tle.mono kb') (.cons (.str _) (.cons (.str _) (.cons (tlb.mono kd') .nil)))))))
  · simp [Tree.subs] at hs
    rcases hs with rfl | rfl | rfl
    · exact ga.ok
    · exact ge.ok
    · exact gb.ok
  · simp [Tree.subs] at hs
    rcases hs with rfl | rfl | rfl
    · exact ga.dep
    · exact ge.dep
    · exact gb.dep
  · simp [scop] at hs
    rcases hs with rfl | rfl | rfl
    · exact ga.snd
    · exact ge.snd
    · have := gb.snd
      rw [List.map_append] at this
      exact this
theorem c_law_tree (T : Txt K mg) (C__law_draw : Cal P w K mg base 1 "_law_draw" ["draws", "many"] sp_law_draw) (C__law_place : Cal P w K mg base 1 "_law_place" ["way"] sp_law_place) (C__law_leaf : Cal P w K mg base 2 "_law_leaf" ["draws", "way", "want", "near"] sp_law_leaf) : ∀ n, Cal P w K mg base (2 * n + 3) "_law_tree" ["draws", "way", "want", "near", "deep"] (sp_law_tree n)
  | 0 => by
    obtain ⟨fd, F⟩ := T.F__law_tree
    have no : ∀ vs H Q E, ¬ sp_law_tree 0 vs H Q E := fun vs H Q E h => by
      obtain ⟨_, _, _, _, _, _, _, _, _, _, _, _, _, d, _⟩ := h
      omega
    exact mk_cal F T.g__law_tree (fun _ _ _ _ _ _ us hl => match us, hl with | [_, _, _, _, _], _ => rfl) ⟨fun vs H Q E h => absurd h (no vs H Q E), fun A outer s H args us vs Q E _ _ _ _ h => absurd h (no vs H Q E)⟩
  | n + 1 => c_law_tree1 T C__law_draw C__law_place C__law_leaf (c_law_op T C__law_draw C__law_place (c_law_tree T C__law_draw C__law_place C__law_leaf n)) (c_law_call T C__law_draw C__law_place C__law_leaf (c_law_tree T C__law_draw C__law_place C__law_leaf n)) (c_law_tree T C__law_draw C__law_place C__law_leaf n)
end
section
variable {P : Program} {w : World} {K : PySem.W.Frag} {mg : Str → Option Value} {base : Heap}
/-- the use of a name alone -/
def Lu (ns : List Str) (t : Tree) : Prop := ∃ q x, t = .use q x [] ∧ okPl q ∧ x ∈ ns
theorem Lu.gd {ns : List Str} {t : Tree} {ar : Str → Option Nat} {nls : List Str} (h : Lu ns t) (h1 : ∀ x ∈ ns, okName x) (h2 : ∀ x ∈ ns, x ∈ nls) : Gd ar nls 1 t := by
  obtain ⟨q, x, rfl, hq, hx⟩ := h
  exact ⟨.mk ⟨hq, h1 x hx, by simp⟩ (by simp [Tree.subs]), .mk (by simp [Tree.subs]), .mk (.inl ⟨h2 x hx, rfl⟩) (by simp [scop, Tree.subs])⟩
theorem Lu.sz {ns : List Str} {t : Tree} (h : Lu ns t) : sz t = 1 := by
  obtain ⟨q, x, rfl, _, _⟩ := h
  simp [Tp.sz, szs]
theorem filter_len {α : Type} [DecidableEq α] {l : List α} (nd : l.Nodup) (S : List α) (p : α → Bool) (h : ∀ x ∈ l, p x = false → x ∈ S) : l.length ≤ (l.filter p).length + S.length := by
  have h1 : l.length = (l.filter p).length + (l.filter fun x => !p x).length := by
    clear nd h
    induction l with
    | nil => rfl
    | cons x l ih =>
      by_cases hx : p x = true
      · simp [hx, ih]; omega
      · simp [hx, ih]; omega
  have h2 := nodup_len (l.filter fun x => !p x) S (nd.filter _) fun x hx => by
    obtain ⟨a, b⟩ := List.mem_filter.mp hx
    exact h x a (by simpa using b)
  omega
def sp_law_loop : Sp := fun vs H Q _ => ∃ (dl wl nl hl pn : Addr) (f : Int) (hv : V) (h : Hd) (ps names : List Str) (hs : List Hd) (ar : Str → Option Nat), vs = [.ref dl, .ref wl, hv, .ref pn] ∧ Dw H dl wl f nl hl ∧ Ev H dl wl nl hl names hs ar ∧ HdV H dl wl hv h ∧ (okName h.1 ∧ h.2.1.length ≤ 3 ∧ ar h.1 = some h.2.1.length ∧ PyData.strOk h.2.2 = true ∧ ∀ k ∈ h.2.1, PyData.strOk k = true) ∧ H pn = some (.lst (ps.map V.str)) ∧ pn ∉ [dl, wl] ∧ ps.length = h.2.1.length ∧ 1 ≤ ps.length ∧ (∀ x ∈ ps, x ∈ names) ∧ h.1 ∉ ps ∧
  ∀ v H' t, Kp [dl, wl] H H' → Dw H' dl wl f nl hl → TD H' v (tr t) → Gd ar ps 4 t → sz t ≤ 9 → Q v H'
theorem sc__law_loop : FnScope ["draws", "way", "head", "names", "fresh", "name", "seen_d", "place", "one", "rest", "sign", "body", "again", "empty"] ["draws", "way", "head", "names"] (defScope s__law_loop) := ⟨rfl, rfl, rfl, by decide +kernel, rfl, by decide +kernel, by decide +kernel⟩
theorem c_law_loop (T : Txt K mg) (C__law_draw : Cal P w K mg base 1 "_law_draw" ["draws", "many"] sp_law_draw) (C__law_place : Cal P w K mg base 1 "_law_place" ["way"] sp_law_place) (C__law_leaf : Cal P w K mg base 2 "_law_leaf" ["draws", "way", "want", "near"] sp_law_leaf) : Cal P w K mg base 3 "_law_loop" ["draws", "way", "head", "names"] sp_law_loop := by
  obtain ⟨fd, F⟩ := T.F__law_loop
  refine mk_cal F T.g__law_loop (fun _ _ _ _ _ _ us hl => match us, hl with | [_, _, _, _], _ => rfl) (mk_ok F sc__law_loop (by walk_at "len") fun cdv A outer s H vs Q E hr h => ?_)
  obtain ⟨dl, wl, nl, hl, pn, f, hv, h, ps, names, hs, ar, rfl, D, E0', hvd, hin, hpn, pnn, hpl, hp1, hps, hno, q⟩ := h
  refine ⟨_, (pss_cons (ps_setLc (i := 4) (own := [("name", 5)]) (g := (gName 5)) rfl sc__law_loop.nd rfl rfl (sw_true rfl rfl rfl (by decide +kernel)) (pi_list (pe_ix (ix_seqK (K := K) rfl) (pv 1) pe_int (fun _ _ => rfl))) (blkOk_by (own := [("name", 5)]) (N := ["draws", "way", "head", "names", "fresh", "name", "seen_d", "place", "one", "rest", "sign", "body", "again", "empty"]) (sc := defScope s__law_loop) (by decide +kernel)) (fun _ _ _ _ _ => (pg_name (i := 5) sc__law_loop.nd rfl (by first | exact Or.inl rfl | exact Or.inr rfl))) (fun _ _ _ _ _ => (pts_one (PW.pt (pw_and (pt_cmpR (op_notIn_seqK (K := K) rfl) (pv 5) (pv 3) rfl) (pw_and1 (pt_cmpR (op_neXK (K := K) hr rfl) (pv 5) (pe_ix (ix_seqK (K := K) rfl) (pv 2) pe_int (fun _ _ => rfl)) (nomark _))))))) (fun _ _ _ _ _ => (pv 5))) (pss_cons (ps_setLc (i := 6) (own := [("name", 5)]) (g := (gName 5)) (tt := tYes) rfl sc__law_loop.nd rfl rfl (sw_true rfl rfl rfl (by decide +kernel)) (pi_list (pv 3)) (blkOk_by (own := [("name", 5)]) (N := ["draws", "way", "head", "names", "fresh", "name", "seen_d", "place", "one", "rest", "sign", "body", "again", "empty"]) (sc := defScope s__law_loop) (by decide +kernel)) (fun _ _ _ _ _ => (pg_name (i := 5) sc__law_loop.nd rfl (by first | exact Or.inl rfl | exact Or.inr rfl))) (fun _ _ _ _ _ => pts_nil) (fun _ _ _ _ _ => (pe_tupK (pa_cons pe_str (pa_cons (pe_cal C__law_place hr (pa_cons (pv 1) pa_nil)) (pa_cons (pv 5) (pa_cons (pe_tupK pa_nil) pa_nil))))))) (pss_cons (ps_set (i := 7) sc__law_loop.nd rfl (by first | exact Or.inl rfl | exact Or.inr rfl) (pe_cal C__law_place hr (pa_cons (pv 1) pa_nil))) (pss_cons (ps_set (i := 8) sc__law_loop.nd rfl (by first | exact Or.inl rfl | exact Or.inr rfl) (pe_tupK (pa_cons pe_str (pa_cons (pe_cal C__law_place hr (pa_cons (pv 1) pa_nil)) (pa_cons (pe_ix (ix_seqK (K := K) rfl) (pv 4) pe_int (fun _ _ => rfl)) (pa_cons (pe_tupK pa_nil) pa_nil)))))) (pss_cons (ps_set (i := 9) sc__law_loop.nd rfl (by first | exact Or.inl rfl | exact Or.inr rfl) (pe_op op_catK (pe_slice sl_listK (pv 6) po_none (po_some (pe_un un_neg pe_int))) (pe_lstK (pa_cons (pe_tupK (pa_cons pe_str (pa_cons (pe_cal C__law_place hr (pa_cons (pv 1) pa_nil)) (pa_cons (pe_ix (ix_seqK (K := K) rfl) (pv 4) pe_int (fun _ _ => rfl)) (pa_cons (pe_tupK pa_nil) pa_nil))))) pa_nil)))) (pss_cons (ps_if (PW.pt (pw_and (pt_cmpR op_gt (pe_callB (call_lenKK (K := K) rfl) (by rfl) T.b_len PySem.boot_len (pa_cons (pv 3) pa_nil)) pe_int (nomark _)) (pw_and (pt_cmpR (op_eqXK (K := K) hr rfl) (pe_ix (ix_seqK (K := K) rfl) (pe_ix (ix_seqK (K := K) rfl) (pv 2) pe_int (fun _ _ => rfl)) pe_int (fun _ _ => rfl)) (pe_ix (ix_seqK (K := K) rfl) (pv 2) pe_int (fun _ _ => rfl)) (nomark _)) (pw_and1 (pt_cmpR (op_eqXK (K := K) hr rfl) (pe_cal C__law_draw hr (pa_cons (pv 0) (pa_cons pe_int pa_nil))) pe_int (nomark _)))))) (pss_cons (ps_set (i := 10) sc__law_loop.nd rfl (by first | exact Or.inl rfl | exact Or.inr rfl) (pe_ix (ix_seqK (K := K) rfl) (pe_lstK (pa_cons pe_str (pa_cons pe_str (pa_cons pe_str pa_nil)))) (pe_op op_mul (pe_callTy call_int1 (by rfl) T.b_int (by decide +kernel) (pa_cons (pe_cmpR (op_eqXK (K := K) hr rfl) (pe_ix (ix_seqK (K := K) rfl) (pv 2) pe_int (fun _ _ => rfl)) pe_str (nomark _)) pa_nil)) (pe_op op_add pe_int (pe_cal C__law_draw hr (pa_cons (pv 0) (pa_cons pe_int pa_nil))))) (fun _ _ => rfl))) (pss_cons (ps_asg (pe_tupK (pa_cons pe_str (pa_cons (pe_cal C__law_place hr (pa_cons (pv 1) pa_nil)) (pa_cons (pv 10) (pa_cons (pv 8) (pa_cons (pe_ix (ix_seqK (K := K) rfl) (pv 9) pe_int (fun _ _ => rfl)) pa_nil)))))) (pg_sub (pv 9) pe_int set_list)) (pss_cons (ps_set (i := 11) sc__law_loop.nd rfl (by first | exact Or.inl rfl | exact Or.inr rfl) (pe_tupK (pa_cons pe_str (pa_cons (pe_cal C__law_place hr (pa_cons (pv 1) pa_nil)) (pa_cons (pe_ix (ix_seqK (K := K) rfl) (pv 2) pe_int (fun _ _ => rfl)) (pa_cons (pe_callTy (call_tupleKK (K := K) rfl) (by rfl) T.b_tuple (by decide +kernel) (pa_cons (pv 9) pa_nil)) pa_nil)))))) (pss_one (ps_ret (pe_tupK (pa_cons pe_str (pa_cons (pv 7) (pa_cons (pe_ix (ix_seqK (K := K) rfl) (pv 6) (pe_un un_neg pe_int) (fun _ _ => rfl)) (pa_cons (pe_ix (ix_seqK (K := K) rfl) (pv 6) pe_int (fun _ _ => rfl)) (pa_cons (pe_ix (ix_seqK (K := K) rfl) (pv 4) pe_int (fun _ _ => rfl)) (pa_cons (pe_ix (ix_seqK (K := K) rfl) (pv 4) pe_int (fun _ _ => rfl)) (pa_cons (pv 11) pa_nil))))))))))))) pss_nil) (pss_cons (ps_set (i := 12) sc__law_loop.nd rfl (by first | exact Or.inl rfl | exact Or.inr rfl) (pe_tupK (pa_cons pe_str (pa_cons (pe_cal C__law_place hr (pa_cons (pv 1) pa_nil)) (pa_cons (pe_ix (ix_seqK (K := K) rfl) (pv 2) pe_int (fun _ _ => rfl)) (pa_cons (pe_callTy (call_tupleKK (K := K) rfl) (by rfl) T.b_tuple (by decide +kernel) (pa_cons (pv 9) pa_nil)) pa_nil)))))) (pss_cons (ps_set (i := 10) sc__law_loop.nd rfl (by first | exact Or.inl rfl | exact Or.inr rfl) (pe_ix (ix_seqK (K := K) rfl) (pe_lstK (pa_cons pe_str (pa_cons pe_str (pa_cons pe_str (pa_cons pe_str pa_nil))))) (pe_op op_mul (pe_callTy call_int1 (by rfl) T.b_int (by decide +kernel) (pa_cons (pe_cmpR (op_eqXK (K := K) hr rfl) (pe_ix (ix_seqK (K := K) rfl) (pv 2) pe_int (fun _ _ => rfl)) pe_str (nomark _)) pa_nil)) (pe_op op_add pe_int (pe_cal C__law_draw hr (pa_cons (pv 0) (pa_cons pe_int pa_nil))))) (fun _ _ => rfl))) (pss_cons (ps_set (i := 13) sc__law_loop.nd rfl (by first | exact Or.inl rfl | exact Or.inr rfl) (pe_cal C__law_leaf hr (pa_cons (pv 0) (pa_cons (pv 1) (pa_cons (pe_ix (ix_seqK (K := K) rfl) (pv 2) pe_int (fun _ _ => rfl)) (pa_cons (pe_lstK pa_nil) pa_nil)))))) (pss_one (ps_ret (pe_tupK (pa_cons pe_str (pa_cons (pv 7) (pa_cons (pe_ix (ix_seqK (K := K) rfl) (pv 6) (pe_un un_neg pe_int) (fun _ _ => rfl)) (pa_cons (pv 13) (pa_cons (pe_ix (ix_seqK (K := K) rfl) (pv 4) pe_int (fun _ _ => rfl)) (pa_cons (pe_ix (ix_seqK (K := K) rfl) (pv 4) pe_int (fun _ _ => rfl)) (pa_cons (pe_tupK (pa_cons pe_str (pa_cons (pe_cal C__law_place hr (pa_cons (pv 1) pa_nil)) (pa_cons (pv 10) (pa_cons (pv 8) (pa_cons (pv 12) pa_nil)))))) pa_nil))))))))))))))))))), ?_⟩
  obtain ⟨a1, a2, a3, a4, a5⟩ := hin
  obtain ⟨pp, qq, rfl, g2, g3, g4⟩ := id hvd
  obtain ⟨aw, sw, wr, hw1, _⟩ := D.wy.inv
  have e8 := E0'.eight
  walk_at "rr"
  refine r_ixL hw1 3 rfl ?_
  walk_at "r"
  refine ⟨⟨_, SqL.of E0'.nm⟩, ?_⟩
  refine lcW (walk_list (xs := names.map V.str)) (by rw [List.length_map]; omega) [] (fun i acc _ => acc = ((names.take i).filter fun x => decide (x ∉ ps) && decide (x ≠ h.1)).map V.str) (fun H1 k => SqL.of (k.at E0'.nm ni0)) (fun _ _ _ _ => rfl) ?_ ?_
  · rintro i z D0 acc H1 H2 hi hD hl1 k1 hdd rfl ⟨rfl, hz⟩
    rw [List.getElem?_map] at hz
    obtain ⟨x, hx, rfl⟩ := Option.map_eq_some_iff.mp hz
    rw [List.length_map] at hi
    walk_at "rr"
    refine ⟨rfl, ?_⟩
    walk_at "rr"
    refine r_nin_l (k1.at hpn ni0) ?_
    walk_at "rr"
    have tk : ∀ b : Bool, (decide (x ∉ ps) && decide (x ≠ h.1)) = b → ((names.take (i + 1)).filter fun x => decide (x ∉ ps) && decide (x ≠ h.1)).map V.str = ((names.take i).filter fun x => decide (x ∉ ps) && decide (x ≠ h.1)).map V.str ++ (if b then [V.str x] else []) := fun b hb => by
      rw [take_snoc2 hx, List.filter_append, List.map_append]
      congr 1
      rw [List.filter_cons, hb]
      cases b <;> simp
    by_cases h1 : x ∈ ps
    · refine r_no (by simp [h1]) ?_
      refine r_no rfl ?_
      exact ⟨_, by omega, k1, hdd, by show _ = _; rw [tk false (by simp [h1])]; simp⟩
    · refine r_yes (by simp [h1]) ?_
      walk_at "rr"
      refine .inr (.inl ⟨pp, _, 0, _, rfl, rfl, SqT.of (k1.atT g2), rfl, ?_⟩)
      walk_at "rr"
      by_cases h2 : x = h.1
      · refine r_no (by simp [h2]) ?_
        exact ⟨_, by omega, k1, hdd, by show _ = _; rw [tk false (by simp [h2])]; simp⟩
      · refine r_yes (by simp [h2]) ?_
        walk_at "rr"
        refine lc_fin hD (by omega) hl1 k1 hdd fun H6 k6 => ?_
        show _ = _
        rw [tk true (by simp [h1, h2])]
        simp
  rintro Df acc H1 hDf _ k1 hdf rfl
  rw [List.length_map, List.take_length] at hdf
  have fl := filter_len E0'.nd (h.1 :: ps) (fun x => decide (x ∉ ps) && decide (x ≠ h.1)) (fun x _ hx => by
    simp at hx
    by_cases h1 : x ∈ ps
    · simp [h1]
    · simp [hx h1])
  have fnd := E0'.nd.filter (fun x => decide (x ∉ ps) && decide (x ≠ h.1))
  have fmem : ∀ x ∈ names.filter (fun x => decide (x ∉ ps) && decide (x ≠ h.1)), x ∈ names ∧ x ∉ ps ∧ x ≠ h.1 := fun x hx => by
    obtain ⟨b1, b2⟩ := List.mem_filter.mp hx
    simp at b2
    exact ⟨b1, b2⟩
  generalize names.filter (fun x => decide (x ∉ ps) && decide (x ≠ h.1)) = fr at *
  have frl : 2 ≤ fr.length := by
    simp at fl
    omega
  have hf0 : fr[0]? = some fr[0] := List.getElem?_eq_getElem (by omega)
  have hf1 : fr[1]? = some fr[1] := List.getElem?_eq_getElem (by omega)
  have hf01 : fr[0] ≠ fr[1] := fun e => by
    have := (List.getElem_inj fnd (h₀ := by omega) (h₁ := by omega)).mp e
    omega
  have m0 := fmem _ (List.mem_of_getElem? hf0)
  have m1 := fmem _ (List.mem_of_getElem? hf1)
  generalize fr[0] = x0 at *
  generalize fr[1] = x1 at *
  have ok0 := E0'.nmok _ m0.1
  have ok1 := E0'.nmok _ m1.1
  have okp : ∀ x ∈ ps, okName x := fun x hx => E0'.nmok _ (hps x hx)
  have D1 := D.mono k1 ni0 ni0
  have nDf := D.new hDf
  have nDf' : Df ∉ [dl, wl] := by simp [Ne.symm nDf.1, Ne.symm nDf.2]
  have k01 : Kp [dl, wl] H H1 := k1.mono (by simp)
  have hpn1 := k01.at hpn pnn
  walk_at "rr"
  refine ⟨⟨_, SqL.of hpn1⟩, ?_⟩
  refine lcW (walk_list (xs := ps.map V.str)) (by rw [List.length_map]; omega) [dl, wl] (fun i acc H' => ∃ ts : List Tree, Dw H' dl wl f nl hl ∧ TDs H' acc (ts.map tr) ∧ ts.length = i ∧ ∀ t ∈ ts, Lu ps t) (fun H2 k => SqL.of (k.at hpn1 pnn)) (fun D0 H2 _ k => ⟨[], D1.mono k ni0 ni0, .nil, rfl, by simp⟩) ?_ ?_
  · rintro i z D0 acc H2 H3 hi hD hl2 k2 hdd ⟨ts, D2, t2, tl2, tg2⟩ ⟨rfl, hz⟩
    rw [List.getElem?_map] at hz
    obtain ⟨x, hx, rfl⟩ := Option.map_eq_some_iff.mp hz
    rw [List.length_map] at hi
    have nD0 := D1.new hD
    have nD0' : D0 ∉ [dl, wl] := by simp [Ne.symm nD0.1, Ne.symm nD0.2]
    walk_at "rr"
    refine ⟨rfl, ?_⟩
    walk_at "rr"
    refine r_yes rfl ?_
    walk_at "rr"
    refine ⟨wl, nl, hl, f, rfl, D2.wy, fun p plv H4 k4 w4 okp4 tp => ?_⟩
    have D4 := D2.placed k4 w4
    walk_at "rr"
    refine ⟨by simp, fun p5 H5 k5 n5 e5 => ?_⟩
    refine ⟨by simp, fun p6 H6 k6 n6 e6 => ?_⟩
    have kk : Kp [dl, wl] H3 H6 := (k4.mono (by simp)).trans ((k5.mono (by simp)).trans (k6.mono (by simp)))
    refine lc_fin hD (by omega) hl2 (k2.trans kk) (kk.at hdd nD0') fun H7 k7 => ⟨ts ++ [.use p x []], ((D4.mono k5 ni0 ni0).mono k6 ni0 ni0).mono k7 (ni1 nD0.1) (ni1 nD0.2), ?_, by simp [tl2], fun t ht => ?_⟩
    · rw [List.map_append]
      refine ((t2.mono kk).snoc ?_).mono k7
      rw [tr_use]
      exact TD.mk e6 (.cons (.str _) (.cons ((tp.mono k5).mono k6) (.cons (.str _) (.cons (TD.mk (k6.atT e5) .nil) .nil))))
    · rcases List.mem_append.mp ht with ht | ht
      · exact tg2 t ht
      · rw [List.mem_singleton.mp ht]
        exact ⟨p, x, rfl, okp4, List.mem_of_getElem? hx⟩
  rintro Dz acc H2 hDz hl2 k2 hdz ⟨ts, D2, t2, tl2, tg2⟩
  rw [List.length_map] at tl2
  have hal : acc.length = ts.length := by rw [t2.1, List.length_map]
  have nDz := D1.new hDz
  have nDz' : Dz ∉ [dl, wl] := by simp [Ne.symm nDz.1, Ne.symm nDz.2]
  have k02 := k01.trans k2
  walk_at "rr"
  refine ⟨wl, nl, hl, f, rfl, D2.wy, fun p3 plv3 H3 k3 w3 okp3 tp3 => ?_⟩
  have D3 := D2.placed k3 w3
  walk_at "rr"
  refine ⟨wl, nl, hl, f, rfl, D3.wy, fun p4 plv4 H4 k4 w4 okp4 tp4 => ?_⟩
  have D4 := D3.placed k4 w4
  have k24 : Kp [dl, wl] H2 H4 := (k3.mono (by simp)).trans (k4.mono (by simp))
  have hf4 := (k2.trans k24).at hdf nDf'
  walk_at "rr"
  refine r_ixL hf4 0 (y := .str x0) (by rw [List.getElem?_map, hf0]; rfl) ?_
  walk_at "rr"
  refine ⟨by simp, fun p5 H5 k5 n5 e5 => ?_⟩
  refine ⟨by simp, fun p6 H6 k6 n6 e6 => ?_⟩
  have k46 : Kp [dl, wl] H4 H6 := (k5.mono (by simp)).trans (k6.mono (by simp))
  have D6 := (D4.mono k5 ni0 ni0).mono k6 ni0 ni0
  have tone : TD H6 (.ref p6) (tr (.use p4 x0 [])) := by
    rw [tr_use]
    exact TD.mk e6 (.cons (.str _) (.cons ((tp4.mono k5).mono k6) (.cons (.str _) (.cons (TD.mk (k6.atT e5) .nil) .nil))))
  have k26 := k24.trans k46
  have hdz6 := k26.at hdz nDz'
  walk_at "rr"
  refine ⟨1, rfl, ?_⟩
  walk_at "rr"
  refine ⟨Dz, acc, rfl, SqL.of hdz6, fun p7 H7 k7 n7 e7 => ?_⟩
  rw [cutV_most] at e7
  have D7 := D6.mono k7 ni0 ni0
  walk_at "rr"
  refine ⟨wl, nl, hl, f, rfl, D7.wy, fun p8 plv8 H8 k8 w8 okp8 tp8 => ?_⟩
  have D8 := D7.placed k8 w8
  have k68 : Kp [dl, wl] H6 H8 := (k7.mono (by simp)).trans (k8.mono (by simp))
  walk_at "rr"
  refine r_ixL ((k46.trans k68).at hf4 nDf') 1 (y := .str x1) (by rw [List.getElem?_map, hf1]; rfl) ?_
  walk_at "rr"
  refine ⟨by simp, fun p9 H9 k9 n9 e9 => ?_⟩
  refine ⟨by simp, fun pa Ha ka na ea => ?_⟩
  refine ⟨by simp, fun pb Hb kb nb eb => ?_⟩
  have k8b : Kp [] H8 Hb := k9.trans (ka.trans kb)
  have Db := D8.mono k8b ni0 ni0
  have t1v : TD Hb (.ref pa) (tr (.use p8 x1 [])) := by
    rw [tr_use]
    exact TD.mk (kb.atT ea) (.cons (.str _) (.cons (tp8.mono k8b) (.cons (.str _) (.cons (TD.mk (kb.atT (ka.atT e9)) .nil) .nil))))
  have np7 := D6.new n7
  have e7b := k8b.at (k8.at e7 (ni1 (Ne.symm np7.2))) ni0
  have hlen3 : ts.length ≤ 3 := by omega
  refine ⟨p7, pb, _, _, rfl, rfl, e7b, eb, by simp; omega, fun pr Hr kr nr' er => ?_⟩
  have Dr := Db.mono kr ni0 ni0
  have k6r : Kp [dl, wl] H6 Hr := k68.trans ((k8b.mono (by simp)).trans (kr.mono (by simp)))
  have k2r := k26.trans k6r
  have k0r := k02.trans k2r
  have npr := Db.new nr'
  have npr' : pr ∉ [dl, wl] := by simp [Ne.symm npr.1, Ne.symm npr.2]
  have trest : TDs Hr (acc.take (acc.length - 1) ++ [.ref pa]) ((ts.take (ts.length - 1) ++ [Tree.use p8 x1 []]).map tr) := by
    rw [hal, List.map_append, List.map_take]
    exact ((t2.mono k2r).take _).append (.one (t1v.mono kr))
  have hdzr := k2r.at hdz nDz'
  have hpnr := (k2.trans k2r).at hpn1 pnn
  have tdz : TDs Hr acc (ts.map tr) := t2.mono k2r
  obtain ⟨tlast, htl⟩ : ∃ u, ts[ts.length - 1]? = some u := ⟨_, List.getElem?_eq_getElem (by omega)⟩
  obtain ⟨vlast, hvl, htvl⟩ := tdz.get (i := acc.length - 1) (d := tr tlast) (by rw [hal, List.getElem?_map, htl]; rfl)
  obtain ⟨tfst, htf⟩ : ∃ u, ts[0]? = some u := ⟨_, List.getElem?_eq_getElem (by omega)⟩
  obtain ⟨vfst, hvf, htvf⟩ := tdz.get (i := 0) (d := tr tfst) (by rw [List.getElem?_map, htf]; rfl)
  have g2r := k0r.atT g2
  have g3r := k0r.at g3 g4
  have glast := tg2 tlast (List.mem_of_getElem? htl)
  have gfst := tg2 tfst (List.mem_of_getElem? htf)
  have toner := tone.mono k6r
  have in2 : ∀ x ∈ ps, x ∈ ps ++ [x0, x1] := fun x hx => by simp [hx]
  have gone : Gd ar (ps ++ [x0, x1]) 1 (.use p4 x0 []) := ⟨.mk ⟨okp4, ok0, by simp⟩ (by simp [Tree.subs]), .mk (by simp [Tree.subs]), .mk (.inl ⟨by simp, rfl⟩) (by simp [scop, Tree.subs])⟩
  have g1' : Gd ar (ps ++ [x0, x1]) 1 (.use p8 x1 []) := ⟨.mk ⟨okp8, ok1, by simp⟩ (by simp [Tree.subs]), .mk (by simp [Tree.subs]), .mk (.inl ⟨by simp, rfl⟩) (by simp [scop, Tree.subs])⟩
  have grest : ∀ t ∈ ts.take (ts.length - 1) ++ [Tree.use p8 x1 []], Gd ar (ps ++ [x0, x1]) 1 t := fun t ht => by
    rcases List.mem_append.mp ht with ht | ht
    · exact (tg2 t (List.mem_of_mem_take ht)).gd okp in2
    · rw [List.mem_singleton.mp ht]
      exact g1'
  have lrest : (ts.take (ts.length - 1) ++ [Tree.use p8 x1 []]).length = ts.length := by
    rw [List.length_append, List.length_take]
    simp
    omega
  have srest : ∀ us : List Tree, (∀ t ∈ us, sz t = 1) → szs us = us.length := by
    intro us
    induction us with
    | nil => intro _; rfl
    | cons u us ih => intro hu; simp [szs, hu u (by simp), ih fun t ht => hu t (by simp [ht])]; omega
  have szr : ∀ t ∈ ts.take (ts.length - 1) ++ [Tree.use p8 x1 []], sz t = 1 := fun t ht => by
    rcases List.mem_append.mp ht with ht | ht
    · exact (tg2 t (List.mem_of_mem_take ht)).sz
    · rw [List.mem_singleton.mp ht]
      simp [sz, szs]
  have hnin : h.1 ∉ ps ++ [x0, x1] := by simp [hno, Ne.symm m0.2.2, Ne.symm m1.2.2]
  walk_at "rr"
  refine r_len_l hpnr ?_
  rw [List.length_map]
  walk_at "rr"
  by_cases hL : 1 < ps.length
  · refine r_yes (decide_eq_true (by omega)) ?_
    walk_at "rr"
    refine .inr (.inl ⟨pp, _, 1, _, rfl, rfl, SqT.of g2r, rfl, ?_⟩)
    walk_at "rr"
    obtain ⟨s0, hs0⟩ : ∃ s0, h.2.1[0]? = some s0 := ⟨_, List.getElem?_eq_getElem (by omega)⟩
    refine r_ixL g3r 0 (y := .str s0) (by rw [List.getElem?_map, hs0]; rfl) ?_
    walk_at "rr"
    refine .inr (.inl ⟨pp, _, 2, _, rfl, rfl, SqT.of g2r, rfl, ?_⟩)
    walk_at "rr"
    by_cases hsame : s0 = h.2.2
    · refine r_yes (decide_eq_true hsame) ?_
      walk_at "rr"
      refine ⟨dl, 2, rfl, Dr.dr, by decide, by decide, fun ne He hne ke dre => ?_⟩
      have De := Dr.drawn ke dre
      have kre : Kp [dl, wl] Hr He := ke.mono (by simp)
      walk_at "rr"
      by_cases hz : ne = 0
      · refine r_yes (by simp [hz]) ?_
        walk_at "rr"
        refine ⟨by simp, fun q1 I1 j1 m1' f1 => ?_⟩
        have E1 := De.mono j1 ni0 ni0
        walk_at "rr"
        refine .inr (.inl ⟨pp, _, 2, _, rfl, rfl, SqT.of ((kre.trans (j1.mono (by simp))).atT g2r), rfl, ?_⟩)
        walk_at "rr"
        refine .inr ⟨_, rfl, ?_⟩
        walk_at "rr"
        refine ⟨dl, 2, rfl, E1.dr, by decide, by decide, fun i2 I2 hi2 j2 dr2 => ?_⟩
        have E2 := E1.drawn j2 dr2
        walk_at "rr"
        refine r_I (.inl (by split <;> decide)) ?_
        obtain ⟨ix, sg, hix, hsg, hxs⟩ : ∃ (i : Nat) (s : Str), (if decide (h.2.2 = "n") = true then (1 : Int) else 0) * (1 + (i2 : Int)) = (i : Int) ∧ s ∈ opsL ∧ ([V.str ":", V.str "+", V.str "-"] : List V)[i]? = some (.str s) := by
          by_cases hh : h.2.2 = "n"
          · match i2, hi2 with
            | 0, _ => exact ⟨1, "+", by simp [hh], by decide +kernel, rfl⟩
            | 1, _ => exact ⟨2, "-", by simp [hh], by decide +kernel, rfl⟩
          · exact ⟨0, ":", by simp [hh], by decide +kernel, rfl⟩
        rw [hix]
        refine r_ixL (j2.at f1 (ni1 (Ne.symm (De.new m1').1))) ix hxs ?_
        walk_at "rr"
        refine ⟨wl, nl, hl, f, rfl, E2.wy, fun p13 plv13 I3 j3 w13 okp13 tp13 => ?_⟩
        have E3 := E2.placed j3 w13
        have ke3 : Kp [dl, wl] He I3 := (j1.mono (by simp)).trans ((j2.mono (by simp)).trans (j3.mono (by simp)))
        have kr3 := kre.trans ke3
        have er3 := kr3.at er npr'
        obtain ⟨c0, cs, hcs⟩ : ∃ c0 cs, acc.take (acc.length - 1) ++ [V.ref pa] = c0 :: cs := by
          cases hq : acc.take (acc.length - 1) ++ [V.ref pa] with
          | nil => simp at hq
          | cons c0 cs => exact ⟨c0, cs, rfl⟩
        obtain ⟨u0, us, hus⟩ : ∃ u0 us, ts.take (ts.length - 1) ++ [Tree.use p8 x1 []] = u0 :: us := by
          cases hq : ts.take (ts.length - 1) ++ [Tree.use p8 x1 []] with
          | nil => simp at hq
          | cons c0 cs => exact ⟨c0, cs, rfl⟩
        rw [hcs] at er3 trest
        rw [hus] at trest grest lrest szr
        have trest3 := trest.mono kr3
        have gu0 := grest u0 (by simp)
        walk_at "rr"
        refine r_ixL er3 0 (y := c0) rfl ?_
        walk_at "rr"
        refine ⟨by simp, fun q4 I4 j4 m4 f4 => ?_⟩
        have er4 := j4.at er3 ni0
        have topv : TD I4 (.ref q4) (tr (.op p13 sg (.use p4 x0 []) u0)) := by
          rw [tr_op]
          exact TD.mk f4 (.cons (.str _) (.cons (tp13.mono j4) (.cons (.str _) (.cons ((toner.mono kr3).mono j4) (.cons (trest3.head.mono j4) .nil)))))
        walk_at "rr"
        refine r_setL (n := 0) er4 (by simp) fun I5 j5 er5 => ?_
        have E5 := (E3.mono j4 ni0 ni0).mono j5 (ni1 npr.1) (ni1 npr.2)
        have kr5 : Kp [dl, wl, pr] Hr I5 := (kr3.mono (by simp)).trans ((j4.mono (by simp)).trans (j5.mono (by simp)))
        have k05' : Kp [dl, wl] H I5 := ((k0r.mono (by simp)).trans kr5).drop fun b hb => by
          simp at hb
          rcases hb with e | e | e
          · exact .inl (by simp [e])
          · exact .inl (by simp [e])
          · exact .inr (by rw [e]; exact (k02.trans k26).free ((k68.trans (k8b.mono (by simp))).free nr'))
        walk_at "rr"
        refine ⟨wl, nl, hl, f, rfl, E5.wy, fun p16 plv16 I6 j6 w16 okp16 tp16 => ?_⟩
        have E6 := E5.placed j6 w16
        walk_at "rr"
        have dzp : Dz ≠ pr := fun e => by
          have := (k26.trans k68).at hdz nDz'
          have z := (k8b.free nr')
          rw [← e] at z
          rw [z] at this
          cases this
        have dfp : Df ≠ pr := fun e => by
          have := ((k2.trans k26).trans k68).at hdf nDf'
          have z := (k8b.free nr')
          rw [← e] at z
          rw [z] at this
          cases this
        have kr6 : Kp [dl, wl, pr] Hr I6 := kr5.trans (j6.mono (by simp))
        have k06' := k05'.trans (j6.mono (M1 := [dl, wl]) (by simp))
        have er6 := j6.at er5 (ni1 (Ne.symm npr.2))
        have t6v : TDs I6 (V.ref q4 :: cs) ((Tree.op p13 sg (.use p4 x0 []) u0 :: us).map tr) := .cons ((topv.mono j5).mono j6) (((trest3.tail.mono j4).mono j5).mono j6)
        refine .inr (.inl ⟨pp, _, 0, _, rfl, rfl, SqT.of (kr6.atT g2r), rfl, ?_⟩)
        walk_at "rr"
        refine r_tuple_l er6 t6v fun y I7 j7 t7 => ?_
        walk_at "rr"
        refine ⟨by simp, fun q8 I8 j8 m8 f8 => ?_⟩
        have tbody : TD I8 (.ref q8) (tr (.use p16 h.1 (Tree.op p13 sg (.use p4 x0 []) u0 :: us))) := by
          rw [tr_use]
          exact TD.mk f8 (.cons (.str _) (.cons ((tp16.mono j7).mono j8) (.cons (.str _) (.cons (t7.mono j8) .nil))))
        have kr8 : Kp [dl, wl, pr] Hr I8 := kr6.trans ((j7.trans j8).mono (by simp))
        have hdz8 := kr8.at hdzr (by simp [Ne.symm nDz.1, Ne.symm nDz.2, dzp])
        have hdf8 := kr8.at ((k46.trans k6r).at hf4 nDf') (by simp [Ne.symm nDf.1, Ne.symm nDf.2, dfp])
        walk_at "rr"
        refine ⟨1, rfl, ?_⟩
        refine r_ixLast hdz8 hvl ?_
        walk_at "rr"
        refine r_ixL hdz8 0 hvf ?_
        walk_at "rr"
        refine r_ixL hdf8 0 (y := .str x0) (by rw [List.getElem?_map, hf0]; rfl) ?_
        walk_at "rr"
        refine r_ixL hdf8 1 (y := .str x1) (by rw [List.getElem?_map, hf1]; rfl) ?_
        walk_at "rr"
        refine ⟨by simp, fun q9 I9 j9 m9 f9 => ?_⟩
        have kr9 : Kp [dl, wl, pr] Hr I9 := kr8.trans (j9.mono (by simp))
        have gop : Gd ar (ps ++ [x0, x1]) 2 (.op p13 sg (.use p4 x0 []) u0) := ⟨.mk ⟨okp13, hsg⟩ (fun s hs => by simp [Tree.subs] at hs; rcases hs with rfl | rfl; exact gone.ok; exact gu0.ok), .mk (fun s hs => by simp [Tree.subs] at hs; rcases hs with rfl | rfl; exact gone.dep; exact gu0.dep), .mk trivial (fun s hs => by simp [scop, Tree.subs] at hs; rcases hs with rfl | rfl; exact gone.snd; exact gu0.snd)⟩
        have gall : ∀ t ∈ (Tree.op p13 sg (.use p4 x0 []) u0 :: us), Gd ar (ps ++ [x0, x1]) 2 t := fun t ht => by
          rcases List.mem_cons.mp ht with rfl | ht
          · exact gop
          · have g := grest t (by simp [ht])
            exact ⟨g.ok, g.dep.up (by omega), g.snd⟩
        simp only [List.length_cons] at lrest
        have gbody : Gd ar (ps ++ [x0, x1]) 3 (.use p16 h.1 (Tree.op p13 sg (.use p4 x0 []) u0 :: us)) := ⟨.mk ⟨okp16, a1, by simp; omega⟩ (fun s hs => (gall s hs).ok), .mk (fun s hs => (gall s hs).dep), .mk (.inr ⟨hnin, by rw [a3]; simp; omega⟩) (fun s hs => by
          simp only [scop, Tree.subs, List.mem_map] at hs
          obtain ⟨u, hu, rfl⟩ := hs
          exact (gall u hu).snd)⟩
        have gl := glast.gd (ar := ar) (nls := ps) okp (fun x hx => hx)
        have gf := gfst.gd (ar := ar) (nls := ps) okp (fun x hx => hx)
        refine q _ I9 (.cs p3 tlast tfst x0 x1 (.use p16 h.1 (Tree.op p13 sg (.use p4 x0 []) u0 :: us))) (k06'.trans ((j7.trans (j8.trans j9)).mono (by simp))) ((E6.mono j7 ni0 ni0).mono (j8.trans j9) ni0 ni0) ?_ ⟨.mk ⟨okp3, ok0, ok1⟩ fun s hs => ?_, .mk fun s hs => ?_, .mk hf01 fun s hs => ?_⟩ ?_
        · rw [tr_cs]
          exact TD.mk f9 (.cons (.str _) (.cons ((tp3.mono ((k4.mono (M1 := [dl, wl]) (by simp)).trans (k46.trans k6r))).mono kr9) (.cons (htvl.mono kr9) (.cons (htvf.mono kr9) (.cons (.str _) (.cons (.str _) (.cons (tbody.mono j9) .nil)))))))
        · simp [Tree.subs] at hs
          rcases hs with rfl | rfl | rfl
          · exact gl.ok
          · exact gf.ok
          · exact gbody.ok
        · simp [Tree.subs] at hs
          rcases hs with rfl | rfl | rfl
          · exact gl.dep.up (by omega)
          · exact gf.dep.up (by omega)
          · exact gbody.dep
        · simp [scop] at hs
          rcases hs with rfl | rfl | rfl
          · exact gl.snd
          · exact gf.snd
          · exact gbody.snd
        · have z1 := srest us (fun t ht => szr t (by simp [ht]))
          have z2 := szr u0 (by simp)
          have z3 := glast.sz
          have z4 := gfst.sz
          simp [sz, szs, z1, z2, z3, z4]
          omega
      · refine r_no (by simp; omega) ?_
        walk_at "rr"
        refine ⟨wl, nl, hl, f, rfl, De.wy, fun p16 plv16 I1 j1 w16 okp16 tp16 => ?_⟩
        have E1 := De.placed j1 w16
        have kr1 : Kp [dl, wl] Hr I1 := Kp.trans kre (j1.mono (by simp))
        walk_at "rr"
        refine .inr (.inl ⟨pp, _, 0, _, rfl, rfl, SqT.of (kr1.atT g2r), rfl, ?_⟩)
        walk_at "rr"
        refine r_tuple_l (kr1.at er npr') (trest.mono kr1) fun y I2 j2 t2' => ?_
        walk_at "rr"
        refine ⟨by simp, fun q3 I3 j3 m3 f3 => ?_⟩
        have E3 := E1.mono (j2.trans j3) ni0 ni0
        have kr3 : Kp [dl, wl] Hr I3 := kr1.trans ((j2.trans j3).mono (by simp))
        have tag : TD I3 (.ref q3) (tr (.use p16 h.1 (ts.take (ts.length - 1) ++ [Tree.use p8 x1 []]))) := by
          rw [tr_use]
          exact TD.mk f3 (.cons (.str _) (.cons (tp16.mono (j2.trans j3)) (.cons (.str _) (.cons (t2'.mono j3) .nil))))
        have gag : Gd ar (ps ++ [x0, x1]) 2 (.use p16 h.1 (ts.take (ts.length - 1) ++ [Tree.use p8 x1 []])) := ⟨.mk ⟨okp16, a1, by rw [lrest]; omega⟩ (fun s hs => (grest s hs).ok), .mk (fun s hs => (grest s hs).dep), .mk (.inr ⟨hnin, by rw [a3, lrest]; congr 1; omega⟩) (fun s hs => by
          simp only [scop, Tree.subs, List.mem_map] at hs
          obtain ⟨u, hu, rfl⟩ := hs
          exact (grest u hu).snd)⟩
        walk_at "rr"
        refine ⟨by simp, fun q4 I4 j4 m4 f4 => ?_⟩
        have E4 := E3.mono j4 ni0 ni0
        walk_at "rr"
        refine .inr (.inl ⟨pp, _, 2, _, rfl, rfl, SqT.of ((kr3.trans (j4.mono (by simp))).atT g2r), rfl, ?_⟩)
        walk_at "rr"
        refine .inr ⟨_, rfl, ?_⟩
        walk_at "rr"
        refine ⟨dl, 3, rfl, E4.dr, by decide, by decide, fun i5 I5 hi5 j5 dr5 => ?_⟩
        have E5 := E4.drawn j5 dr5
        walk_at "rr"
        refine r_I (.inl (by split <;> decide)) ?_
        obtain ⟨ix, sg, hix, hsg, hxs⟩ : ∃ (i : Nat) (s : Str), (if decide (h.2.2 = "n") = true then (1 : Int) else 0) * (1 + (i5 : Int)) = (i : Int) ∧ s ∈ opsL ∧ ([V.str ":", V.str "+", V.str "-", V.str "*"] : List V)[i]? = some (.str s) := by
          by_cases hh : h.2.2 = "n"
          · match i5, hi5 with
            | 0, _ => exact ⟨1, "+", by simp [hh], by decide +kernel, rfl⟩
            | 1, _ => exact ⟨2, "-", by simp [hh], by decide +kernel, rfl⟩
            | 2, _ => exact ⟨3, "*", by simp [hh], by decide +kernel, rfl⟩
          · exact ⟨0, ":", by simp [hh], by decide +kernel, rfl⟩
        rw [hix]
        refine r_ixL (j5.at f4 (ni1 (Ne.symm (E3.new m4).1))) ix hxs ?_
        have kr5 : Kp [dl, wl] Hr I5 := kr3.trans ((j4.mono (by simp)).trans (j5.mono (by simp)))
        walk_at "rr"
        refine .inr (.inl ⟨pp, _, 2, _, rfl, rfl, SqT.of (kr5.atT g2r), rfl, ?_⟩)
        walk_at "rr"
        refine ⟨by simp, fun q6 I6 j6 m6 f6 => ?_⟩
        walk_at "rr"
        refine ⟨dl, wl, nl, hl, q6, f, h.2.2, [], ar, rfl, E5.mono j6 ni0 ni0, ⟨[], f6, .nil⟩, by simp, by simp, fun lv I7 tlf j7 E7 tlv glf zlf => ?_⟩
        have kr7 : Kp [dl, wl] Hr I7 := kr5.trans ((j6.mono (by simp)).trans j7)
        have glf2 : Gd ar ps 1 tlf := glf ps (by simp)
        have hdz7 := kr7.at hdzr nDz'
        have hdf7 := kr7.at ((k46.trans k6r).at hf4 nDf') nDf'
        walk_at "rr"
        refine ⟨1, rfl, ?_⟩
        refine r_ixLast hdz7 hvl ?_
        walk_at "rr"
        refine r_ixL hdf7 0 (y := .str x0) (by rw [List.getElem?_map, hf0]; rfl) ?_
        walk_at "rr"
        refine r_ixL hdf7 1 (y := .str x1) (by rw [List.getElem?_map, hf1]; rfl) ?_
        walk_at "rr"
        refine ⟨wl, nl, hl, f, rfl, E7.wy, fun p18 plv18 I8 j8 w18 okp18 tp18 => ?_⟩
        have E8 := E7.placed j8 w18
        walk_at "rr"
        refine ⟨by simp, fun q9 I9 j9 m9 f9 => ?_⟩
        refine ⟨by simp, fun q10 I10 j10 m10 f10 => ?_⟩
        have k38 : Kp [dl, wl] I3 I8 := (j4.mono (by simp)).trans ((j5.mono (by simp)).trans ((j6.mono (by simp)).trans (j7.trans (j8.mono (by simp)))))
        have kr8 : Kp [dl, wl] Hr I8 := kr7.trans (j8.mono (by simp))
        have topv : TD I9 (.ref q9) (tr (.op p18 sg (.use p4 x0 []) (.use p16 h.1 (ts.take (ts.length - 1) ++ [Tree.use p8 x1 []])))) := by
          rw [tr_op]
          exact TD.mk f9 (.cons (.str _) (.cons (tp18.mono j9) (.cons (.str _) (.cons ((toner.mono kr8).mono j9) (.cons ((tag.mono k38).mono j9) .nil)))))
        have gop : Gd ar (ps ++ [x0, x1]) 3 (.op p18 sg (.use p4 x0 []) (.use p16 h.1 (ts.take (ts.length - 1) ++ [Tree.use p8 x1 []]))) := ⟨.mk ⟨okp18, hsg⟩ (fun s hs => by simp [Tree.subs] at hs; rcases hs with rfl | rfl; exact gone.ok; exact gag.ok), .mk (fun s hs => by simp [Tree.subs] at hs; rcases hs with rfl | rfl; exact gone.dep.up (by omega); exact gag.dep), .mk trivial (fun s hs => by simp [scop, Tree.subs] at hs; rcases hs with rfl | rfl; exact gone.snd; exact gag.snd)⟩
        have gl := glast.gd (ar := ar) (nls := ps) okp (fun x hx => hx)
        have kr10 : Kp [dl, wl] Hr I10 := kr8.trans ((j9.trans j10).mono (by simp))
        refine q _ I10 (.cs p3 tlast tlf x0 x1 (.op p18 sg (.use p4 x0 []) (.use p16 h.1 (ts.take (ts.length - 1) ++ [Tree.use p8 x1 []])))) (k0r.trans kr10) (E8.mono (j9.trans j10) ni0 ni0) ?_ ⟨.mk ⟨okp3, ok0, ok1⟩ fun s hs => ?_, .mk fun s hs => ?_, .mk hf01 fun s hs => ?_⟩ ?_
        · rw [tr_cs]
          exact TD.mk f10 (.cons (.str _) (.cons ((tp3.mono ((k4.mono (M1 := [dl, wl]) (by simp)).trans (k46.trans k6r))).mono kr10) (.cons (htvl.mono kr10) (.cons (((tlv.mono j8).mono j9).mono j10) (.cons (.str _) (.cons (.str _) (.cons (topv.mono j10) .nil)))))))
        · simp [Tree.subs] at hs
          rcases hs with rfl | rfl | rfl
          · exact gl.ok
          · exact glf2.ok
          · exact gop.ok
        · simp [Tree.subs] at hs
          rcases hs with rfl | rfl | rfl
          · exact gl.dep.up (by omega)
          · exact glf2.dep.up (by omega)
          · exact gop.dep
        · simp [scop] at hs
          rcases hs with rfl | rfl | rfl
          · exact gl.snd
          · exact glf2.snd
          · exact gop.snd
        · have z1 := srest _ szr
          rw [lrest] at z1
          have z3 := glast.sz
          simp only [sz, szs, z1, z3, zlf]
          omega
    · refine r_no (decide_eq_false hsame) ?_
      refine r_no rfl ?_
      walk_at "rr"
      refine ⟨wl, nl, hl, f, rfl, Dr.wy, fun p16 plv16 I1 j1 w16 okp16 tp16 => ?_⟩
      have E1 := Dr.placed j1 w16
      have kr1 : Kp [dl, wl] Hr I1 := Kp.trans (Kp.refl _ _) (j1.mono (by simp))
      walk_at "rr"
      refine .inr (.inl ⟨pp, _, 0, _, rfl, rfl, SqT.of (kr1.atT g2r), rfl, ?_⟩)
      walk_at "rr"
      refine r_tuple_l (kr1.at er npr') (trest.mono kr1) fun y I2 j2 t2' => ?_
      walk_at "rr"
      refine ⟨by simp, fun q3 I3 j3 m3 f3 => ?_⟩
      have E3 := E1.mono (j2.trans j3) ni0 ni0
      have kr3 : Kp [dl, wl] Hr I3 := kr1.trans ((j2.trans j3).mono (by simp))
      have tag : TD I3 (.ref q3) (tr (.use p16 h.1 (ts.take (ts.length - 1) ++ [Tree.use p8 x1 []]))) := by
        rw [tr_use]
        exact TD.mk f3 (.cons (.str _) (.cons (tp16.mono (j2.trans j3)) (.cons (.str _) (.cons (t2'.mono j3) .nil))))
      have gag : Gd ar (ps ++ [x0, x1]) 2 (.use p16 h.1 (ts.take (ts.length - 1) ++ [Tree.use p8 x1 []])) := ⟨.mk ⟨okp16, a1, by rw [lrest]; omega⟩ (fun s hs => (grest s hs).ok), .mk (fun s hs => (grest s hs).dep), .mk (.inr ⟨hnin, by rw [a3, lrest]; congr 1; omega⟩) (fun s hs => by
        simp only [scop, Tree.subs, List.mem_map] at hs
        obtain ⟨u, hu, rfl⟩ := hs
        exact (grest u hu).snd)⟩
      walk_at "rr"
      refine ⟨by simp, fun q4 I4 j4 m4 f4 => ?_⟩
      have E4 := E3.mono j4 ni0 ni0
      walk_at "rr"
      refine .inr (.inl ⟨pp, _, 2, _, rfl, rfl, SqT.of ((kr3.trans (j4.mono (by simp))).atT g2r), rfl, ?_⟩)
      walk_at "rr"
      refine .inr ⟨_, rfl, ?_⟩
      walk_at "rr"
      refine ⟨dl, 3, rfl, E4.dr, by decide, by decide, fun i5 I5 hi5 j5 dr5 => ?_⟩
      have E5 := E4.drawn j5 dr5
      walk_at "rr"
      refine r_I (.inl (by split <;> decide)) ?_
      obtain ⟨ix, sg, hix, hsg, hxs⟩ : ∃ (i : Nat) (s : Str), (if decide (h.2.2 = "n") = true then (1 : Int) else 0) * (1 + (i5 : Int)) = (i : Int) ∧ s ∈ opsL ∧ ([V.str ":", V.str "+", V.str "-", V.str "*"] : List V)[i]? = some (.str s) := by
        by_cases hh : h.2.2 = "n"
        · match i5, hi5 with
          | 0, _ => exact ⟨1, "+", by simp [hh], by decide +kernel, rfl⟩
          | 1, _ => exact ⟨2, "-", by simp [hh], by decide +kernel, rfl⟩
          | 2, _ => exact ⟨3, "*", by simp [hh], by decide +kernel, rfl⟩
        · exact ⟨0, ":", by simp [hh], by decide +kernel, rfl⟩
      rw [hix]
      refine r_ixL (j5.at f4 (ni1 (Ne.symm (E3.new m4).1))) ix hxs ?_
      have kr5 : Kp [dl, wl] Hr I5 := kr3.trans ((j4.mono (by simp)).trans (j5.mono (by simp)))
      walk_at "rr"
      refine .inr (.inl ⟨pp, _, 2, _, rfl, rfl, SqT.of (kr5.atT g2r), rfl, ?_⟩)
      walk_at "rr"
      refine ⟨by simp, fun q6 I6 j6 m6 f6 => ?_⟩
      walk_at "rr"
      refine ⟨dl, wl, nl, hl, q6, f, h.2.2, [], ar, rfl, E5.mono j6 ni0 ni0, ⟨[], f6, .nil⟩, by simp, by simp, fun lv I7 tlf j7 E7 tlv glf zlf => ?_⟩
      have kr7 : Kp [dl, wl] Hr I7 := kr5.trans ((j6.mono (by simp)).trans j7)
      have glf2 : Gd ar ps 1 tlf := glf ps (by simp)
      have hdz7 := kr7.at hdzr nDz'
      have hdf7 := kr7.at ((k46.trans k6r).at hf4 nDf') nDf'
      walk_at "rr"
      refine ⟨1, rfl, ?_⟩
      refine r_ixLast hdz7 hvl ?_
      walk_at "rr"
      refine r_ixL hdf7 0 (y := .str x0) (by rw [List.getElem?_map, hf0]; rfl) ?_
      walk_at "rr"
      refine r_ixL hdf7 1 (y := .str x1) (by rw [List.getElem?_map, hf1]; rfl) ?_
      walk_at "rr"
      refine ⟨wl, nl, hl, f, rfl, E7.wy, fun p18 plv18 I8 j8 w18 okp18 tp18 => ?_⟩
      have E8 := E7.placed j8 w18
      walk_at "rr"
      refine ⟨by simp, fun q9 I9 j9 m9 f9 => ?_⟩
      refine ⟨by simp, fun q10 I10 j10 m10 f10 => ?_⟩
      have k38 : Kp [dl, wl] I3 I8 := (j4.mono (by simp)).trans ((j5.mono (by simp)).trans ((j6.mono (by simp)).trans (j7.trans (j8.mono (by simp)))))
      have kr8 : Kp [dl, wl] Hr I8 := kr7.trans (j8.mono (by simp))
      have topv : TD I9 (.ref q9) (tr (.op p18 sg (.use p4 x0 []) (.use p16 h.1 (ts.take (ts.length - 1) ++ [Tree.use p8 x1 []])))) := by
        rw [tr_op]
        exact TD.mk f9 (.cons (.str _) (.cons (tp18.mono j9) (.cons (.str _) (.cons ((toner.mono kr8).mono j9) (.cons ((tag.mono k38).mono j9) .nil)))))
      have gop : Gd ar (ps ++ [x0, x1]) 3 (.op p18 sg (.use p4 x0 []) (.use p16 h.1 (ts.take (ts.length - 1) ++ [Tree.use p8 x1 []]))) := ⟨.mk ⟨okp18, hsg⟩ (fun s hs => by simp [Tree.subs] at hs; rcases hs with rfl | rfl; exact gone.ok; exact gag.ok), .mk (fun s hs => by simp [Tree.subs] at hs; rcases hs with rfl | rfl; exact gone.dep.up (by omega); exact gag.dep), .mk trivial (fun s hs => by simp [scop, Tree.subs] at hs; rcases hs with rfl | rfl; exact gone.snd; exact gag.snd)⟩
      have gl := glast.gd (ar := ar) (nls := ps) okp (fun x hx => hx)
      have kr10 : Kp [dl, wl] Hr I10 := kr8.trans ((j9.trans j10).mono (by simp))
      refine q _ I10 (.cs p3 tlast tlf x0 x1 (.op p18 sg (.use p4 x0 []) (.use p16 h.1 (ts.take (ts.length - 1) ++ [Tree.use p8 x1 []])))) (k0r.trans kr10) (E8.mono (j9.trans j10) ni0 ni0) ?_ ⟨.mk ⟨okp3, ok0, ok1⟩ fun s hs => ?_, .mk fun s hs => ?_, .mk hf01 fun s hs => ?_⟩ ?_
      · rw [tr_cs]
        exact TD.mk f10 (.cons (.str _) (.cons ((tp3.mono ((k4.mono (M1 := [dl, wl]) (by simp)).trans (k46.trans k6r))).mono kr10) (.cons (htvl.mono kr10) (.cons (((tlv.mono j8).mono j9).mono j10) (.cons (.str _) (.cons (.str _) (.cons (topv.mono j10) .nil)))))))
      · simp [Tree.subs] at hs
        rcases hs with rfl | rfl | rfl
        · exact gl.ok
        · exact glf2.ok
        · exact gop.ok
      · simp [Tree.subs] at hs
        rcases hs with rfl | rfl | rfl
        · exact gl.dep.up (by omega)
        · exact glf2.dep.up (by omega)
        · exact gop.dep
      · simp [scop] at hs
        rcases hs with rfl | rfl | rfl
        · exact gl.snd
        · exact glf2.snd
        · exact gop.snd
      · have z1 := srest _ szr
        rw [lrest] at z1
        have z3 := glast.sz
        simp only [sz, szs, z1, z3, zlf]
        omega
  · refine r_no (decide_eq_false (by omega)) ?_
    refine r_no rfl ?_
    walk_at "rr"
    refine ⟨wl, nl, hl, f, rfl, Dr.wy, fun p16 plv16 I1 j1 w16 okp16 tp16 => ?_⟩
    have E1 := Dr.placed j1 w16
    have kr1 : Kp [dl, wl] Hr I1 := Kp.trans (Kp.refl _ _) (j1.mono (by simp))
    walk_at "rr"
    refine .inr (.inl ⟨pp, _, 0, _, rfl, rfl, SqT.of (kr1.atT g2r), rfl, ?_⟩)
    walk_at "rr"
    refine r_tuple_l (kr1.at er npr') (trest.mono kr1) fun y I2 j2 t2' => ?_
    walk_at "rr"
    refine ⟨by simp, fun q3 I3 j3 m3 f3 => ?_⟩
    have E3 := E1.mono (j2.trans j3) ni0 ni0
    have kr3 : Kp [dl, wl] Hr I3 := kr1.trans ((j2.trans j3).mono (by simp))
    have tag : TD I3 (.ref q3) (tr (.use p16 h.1 (ts.take (ts.length - 1) ++ [Tree.use p8 x1 []]))) := by
      rw [tr_use]
      exact TD.mk f3 (.cons (.str _) (.cons (tp16.mono (j2.trans j3)) (.cons (.str _) (.cons (t2'.mono j3) .nil))))
    have gag : Gd ar (ps ++ [x0, x1]) 2 (.use p16 h.1 (ts.take (ts.length - 1) ++ [Tree.use p8 x1 []])) := ⟨.mk ⟨okp16, a1, by rw [lrest]; omega⟩ (fun s hs => (grest s hs).ok), .mk (fun s hs => (grest s hs).dep), .mk (.inr ⟨hnin, by rw [a3, lrest]; congr 1; omega⟩) (fun s hs => by
      simp only [scop, Tree.subs, List.mem_map] at hs
      obtain ⟨u, hu, rfl⟩ := hs
      exact (grest u hu).snd)⟩
    walk_at "rr"
    refine ⟨by simp, fun q4 I4 j4 m4 f4 => ?_⟩
    have E4 := E3.mono j4 ni0 ni0
    walk_at "rr"
    refine .inr (.inl ⟨pp, _, 2, _, rfl, rfl, SqT.of ((kr3.trans (j4.mono (by simp))).atT g2r), rfl, ?_⟩)
    walk_at "rr"
    refine .inr ⟨_, rfl, ?_⟩
    walk_at "rr"
    refine ⟨dl, 3, rfl, E4.dr, by decide, by decide, fun i5 I5 hi5 j5 dr5 => ?_⟩
    have E5 := E4.drawn j5 dr5
    walk_at "rr"
    refine r_I (.inl (by split <;> decide)) ?_
    obtain ⟨ix, sg, hix, hsg, hxs⟩ : ∃ (i : Nat) (s : Str), (if decide (h.2.2 = "n") = true then (1 : Int) else 0) * (1 + (i5 : Int)) = (i : Int) ∧ s ∈ opsL ∧ ([V.str ":", V.str "+", V.str "-", V.str "*"] : List V)[i]? = some (.str s) := by
      by_cases hh : h.2.2 = "n"
      · match i5, hi5 with
        | 0, _ => exact ⟨1, "+", by simp [hh], by decide +kernel, rfl⟩
        | 1, _ => exact ⟨2, "-", by simp [hh], by decide +kernel, rfl⟩
        | 2, _ => exact ⟨3, "*", by simp [hh], by decide +kernel, rfl⟩
      · exact ⟨0, ":", by simp [hh], by decide +kernel, rfl⟩
    rw [hix]
    refine r_ixL (j5.at f4 (ni1 (Ne.symm (E3.new m4).1))) ix hxs ?_
    have kr5 : Kp [dl, wl] Hr I5 := kr3.trans ((j4.mono (by simp)).trans (j5.mono (by simp)))
    walk_at "rr"
    refine .inr (.inl ⟨pp, _, 2, _, rfl, rfl, SqT.of (kr5.atT g2r), rfl, ?_⟩)
    walk_at "rr"
    refine ⟨by simp, fun q6 I6 j6 m6 f6 => ?_⟩
    walk_at "rr"
    refine ⟨dl, wl, nl, hl, q6, f, h.2.2, [], ar, rfl, E5.mono j6 ni0 ni0, ⟨[], f6, .nil⟩, by simp, by simp, fun lv I7 tlf j7 E7 tlv glf zlf => ?_⟩
    have kr7 : Kp [dl, wl] Hr I7 := kr5.trans ((j6.mono (by simp)).trans j7)
    have glf2 : Gd ar ps 1 tlf := glf ps (by simp)
    have hdz7 := kr7.at hdzr nDz'
    have hdf7 := kr7.at ((k46.trans k6r).at hf4 nDf') nDf'
    walk_at "rr"
    refine ⟨1, rfl, ?_⟩
    refine r_ixLast hdz7 hvl ?_
    walk_at "rr"
    refine r_ixL hdf7 0 (y := .str x0) (by rw [List.getElem?_map, hf0]; rfl) ?_
    walk_at "rr"
    refine r_ixL hdf7 1 (y := .str x1) (by rw [List.getElem?_map, hf1]; rfl) ?_
    walk_at "rr"
    refine ⟨wl, nl, hl, f, rfl, E7.wy, fun p18 plv18 I8 j8 w18 okp18 tp18 => ?_⟩
    have E8 := E7.placed j8 w18
    walk_at "rr"
    refine ⟨by simp, fun q9 I9 j9 m9 f9 => ?_⟩
    refine ⟨by simp, fun q10 I10 j10 m10 f10 => ?_⟩
    have k38 : Kp [dl, wl] I3 I8 := (j4.mono (by simp)).trans ((j5.mono (by simp)).trans ((j6.mono (by simp)).trans (j7.trans (j8.mono (by simp)))))
    have kr8 : Kp [dl, wl] Hr I8 := kr7.trans (j8.mono (by simp))
    have topv : TD I9 (.ref q9) (tr (.op p18 sg (.use p4 x0 []) (.use p16 h.1 (ts.take (ts.length - 1) ++ [Tree.use p8 x1 []])))) := by
      rw [tr_op]
      exact TD.mk f9 (.cons (.str _) (.cons (tp18.mono j9) (.cons (.str _) (.cons ((toner.mono kr8).mono j9) (.cons ((tag.mono k38).mono j9) .nil)))))
    have gop : Gd ar (ps ++ [x0, x1]) 3 (.op p18 sg (.use p4 x0 []) (.use p16 h.1 (ts.take (ts.length - 1) ++ [Tree.use p8 x1 []]))) := ⟨.mk ⟨okp18, hsg⟩ (fun s hs => by simp [Tree.subs] at hs; rcases hs with rfl | rfl; exact gone.ok; exact gag.ok), .mk (fun s hs => by simp [Tree.subs] at hs; rcases hs with rfl | rfl; exact gone.dep.up (by omega); exact gag.dep), .mk trivial (fun s hs => by simp [scop, Tree.subs] at hs; rcases hs with rfl | rfl; exact gone.snd; exact gag.snd)⟩
    have gl := glast.gd (ar := ar) (nls := ps) okp (fun x hx => hx)
    have kr10 : Kp [dl, wl] Hr I10 := kr8.trans ((j9.trans j10).mono (by simp))
    refine q _ I10 (.cs p3 tlast tlf x0 x1 (.op p18 sg (.use p4 x0 []) (.use p16 h.1 (ts.take (ts.length - 1) ++ [Tree.use p8 x1 []])))) (k0r.trans kr10) (E8.mono (j9.trans j10) ni0 ni0) ?_ ⟨.mk ⟨okp3, ok0, ok1⟩ fun s hs => ?_, .mk fun s hs => ?_, .mk hf01 fun s hs => ?_⟩ ?_
    · rw [tr_cs]
      exact TD.mk f10 (.cons (.str _) (.cons ((tp3.mono ((k4.mono (M1 := [dl, wl]) (by simp)).trans (k46.trans k6r))).mono kr10) (.cons (htvl.mono kr10) (.cons (((tlv.mono j8).mono j9).mono j10) (.cons (.str _) (.cons (.str _) (.cons (topv.mono j10) .nil)))))))
    · simp [Tree.subs] at hs
      rcases hs with rfl | rfl | rfl
      · exact gl.ok
      · exact glf2.ok
      · exact gop.ok
    · simp [Tree.subs] at hs
      rcases hs with rfl | rfl | rfl
      · exact gl.dep.up (by omega)
      · exact glf2.dep.up (by omega)
      · exact gop.dep
    · simp [scop] at hs
      rcases hs with rfl | rfl | rfl
      · exact gl.snd
      · exact glf2.snd
      · exact gop.snd
    · have z1 := srest _ szr
      rw [lrest] at z1
      have z3 := glast.sz
      simp only [sz, szs, z1, z3, zlf]
      omega
end
section
variable {P : Program} {w : World} {K : PySem.W.Frag} {mg : Str → Option Value} {base : Heap}
def sp_law_new : Sp := fun vs H Q _ => ∃ (l : Addr) (c : Nat), vs = [.ref l] ∧ H l = some (.lst [.int (c : Int)]) ∧ ∀ v H', Kp [l] H H' → H' l = some (.lst [.int ((c + 1 : Nat) : Int)]) → TD H' v (kd (an (c + 1))) → Q v H'
theorem sc__law_new : FnScope ["count"] ["count"] (defScope s__law_new) := ⟨rfl, rfl, rfl, by decide +kernel, rfl, by decide +kernel, by decide +kernel⟩
theorem c_law_new (T : Txt K mg) : Cal P w K mg base 1 "_law_new" ["count"] sp_law_new := by
  obtain ⟨fd, F⟩ := T.F__law_new
  refine mk_cal F T.g__law_new (fun _ _ _ _ _ _ us hl => match us, hl with | [_], _ => rfl) (mk_ok F sc__law_new (by walk_at "len") fun cdv A outer s H vs Q E hr h => ?_)
  obtain ⟨l, c, rfl, hl, q⟩ := h
  refine ⟨_, (pss_cons (ps_asg (pe_op op_add (pe_ix (ix_seqK (K := K) rfl) (pv 0) pe_int (fun _ _ => rfl)) pe_int) (pg_sub (pv 0) pe_int set_list)) (pss_one (ps_ret (pe_tupK (pa_cons pe_str (pa_cons (pe_ix (ix_seqK (K := K) rfl) (pv 0) pe_int (fun _ _ => rfl)) pa_nil)))))), ?_⟩
  walk_at "rr"
  refine r_ixL hl 0 rfl ?_
  walk_at "rr"
  refine r_setL (n := 0) hl (by simp) fun H1 k1 e1 => ?_
  walk_at "rr"
  refine r_ixL e1 0 rfl ?_
  walk_at "rr"
  refine ⟨by simp, fun p H2 k2 n2 e2 => ?_⟩
  have ec : ((c : Int) + 1) = ((c + 1 : Nat) : Int) := by omega
  rw [ec] at e1 e2
  exact q _ H2 (k1.trans (k2.mono (by simp))) (k2.at e1 ni0) (TD.mk e2 (.cons (.str _) (.cons (.int _) .nil)))
def isTupD : PyData → Bool
  | .tuple _ => true
  | _ => false
theorem isTup_tr (t : Tree) : isTupD (tr t) = true := by rw [tr_eq]; rfl
theorem more_subs {t : Tree} (h1 : ¬ t.word = "use") (h2 : ¬ t.word = "case") : t.more.filter isTupD = t.subs.map tr := by
  cases t with
  | use p x as => exact absurd rfl h1
  | cs p w e h t b => exact absurd rfl h2
  | num p n => rfl
  | nil p => rfl
  | op p s l r =>
    have e : isTupD (.str s) = false := rfl
    simp [Tree.more, Tree.subs, isTup_tr, List.filter_cons, e]
  | ite p c y n => simp [Tree.more, Tree.subs, isTup_tr]
  | lt p x a b =>
    have e : isTupD (.str x) = false := rfl
    simp [Tree.more, Tree.subs, isTup_tr, List.filter_cons, e]
theorem cutD_drop {α : Type} (ds : List α) (i : Nat) (h : i ≤ ds.length) : cutD ds (some (i : Int)) none = ds.drop i := by
  unfold cutD
  rw [HT.sIx_none, HT.sIx_nat, Nat.min_eq_left h, List.take_of_length_le (by rw [List.length_drop]; omega)]
theorem sc__law_subs : FnScope ["tree", "part"] ["tree"] (defScope s__law_subs) := ⟨rfl, rfl, rfl, by decide +kernel, rfl, by decide +kernel, by decide +kernel⟩
theorem c_law_subs (T : Txt K mg) : Cal P w K mg base 1 "_law_subs" ["tree"] sp_subtrees := by
  obtain ⟨fd, F⟩ := T.F__law_subs
  refine mk_cal F T.g__law_subs (fun _ _ _ _ _ _ us hl => match us, hl with | [_], _ => rfl) (mk_ok F sc__law_subs (by walk_at "len") fun cdv A outer s H vs Q E hr h => ?_)
  obtain ⟨v, t, rfl, hv, q⟩ := h
  refine ⟨_, (pss_cons (ps_if (pt_cmpR (op_eqXK (K := K) hr rfl) (pe_ix (ix_seqK (K := K) rfl) (pv 0) pe_int (fun _ _ => rfl)) pe_str (nomark _)) (pss_one (ps_ret (pe_callTy (call_listKK (K := K) rfl) (by rfl) T.b_list (by decide +kernel) (pa_cons (pe_ix (ix_seqK (K := K) rfl) (pv 0) pe_int (fun _ _ => rfl)) pa_nil)))) pss_nil) (pss_cons (ps_if (pt_cmpR (op_eqXK (K := K) hr rfl) (pe_ix (ix_seqK (K := K) rfl) (pv 0) pe_int (fun _ _ => rfl)) pe_str (nomark _)) (pss_one (ps_ret (pe_lstK (pa_cons (pe_ix (ix_seqK (K := K) rfl) (pv 0) pe_int (fun _ _ => rfl)) (pa_cons (pe_ix (ix_seqK (K := K) rfl) (pv 0) pe_int (fun _ _ => rfl)) (pa_cons (pe_ix (ix_seqK (K := K) rfl) (pv 0) pe_int (fun _ _ => rfl)) pa_nil)))))) pss_nil) (pss_one (ps_ret (pe_lc (own := [("part", 1)]) (g := (gName 1)) rfl sc__law_subs.nd (pi_tup (pe_slice sl_tupK (pv 0) (po_some pe_int) po_none)) (blkOk_by (own := [("part", 1)]) (N := ["tree", "part"]) (sc := defScope s__law_subs) (by decide +kernel)) (fun _ _ _ _ _ => (pg_name (i := 1) sc__law_subs.nd rfl (by first | exact Or.inl rfl | exact Or.inr rfl))) (fun _ _ _ _ _ => (pts_one (pt_val (pe_callB (call_isiKK (K := K) rfl) (by rfl) T.b_isinstance (by decide +kernel) (pa_cons (pv 1) (pa_cons (pe_bltn (v := .ty "tuple") rfl T.b_tuple (by decide +kernel) rfl) pa_nil)))))) (fun _ _ _ _ _ => (pv 1))))))), ?_⟩
  have hv2 := hv
  rw [tr_eq] at hv2
  walk_at "rr"
  refine r_ix_str hv2 0 rfl ?_
  walk_at "rr"
  by_cases h1 : t.word = "use"
  · refine r_yes (decide_eq_true h1) ?_
    cases t <;> first | (exfalso; revert h1; simp only [Tree.word]; decide +kernel) | skip
    rename_i p x as
    rw [tr_use] at hv
    walk_at "rr"
    refine r_ix hv 3 rfl fun va ha => ?_
    walk_at "rr"
    exact r_list_td ha fun l ys H1 k1 n1 e1 t1 => q l ys H1 k1 n1 e1 t1
  refine r_no (decide_eq_false h1) ?_
  walk_at "rr"
  refine r_ix_str hv2 0 rfl ?_
  walk_at "rr"
  by_cases h2 : t.word = "case"
  · refine r_yes (decide_eq_true h2) ?_
    cases t <;> first | (exfalso; revert h2; simp only [Tree.word]; decide +kernel) | skip
    rename_i p w' e hh tt b
    rw [tr_cs] at hv
    walk_at "rr"
    refine r_ix hv 2 rfl fun v1 g1 => ?_
    walk_at "rr"
    refine r_ix hv 3 rfl fun v2 g2 => ?_
    walk_at "rr"
    refine r_ix hv 6 rfl fun v3 g3 => ?_
    walk_at "rr"
    exact ⟨by simp, fun l H1 k1 n1 e1 => q l _ H1 k1 n1 e1 (.cons (g1.mono k1) (.cons (g2.mono k1) (.cons (g3.mono k1) .nil)))⟩
  refine r_no (decide_eq_false h2) ?_
  walk_at "rr"
  refine ⟨_, hv2, fun y H1 k1 t1 => ?_⟩
  rw [show cutD (PyData.str t.word :: pl t.place :: t.more) (some 2) none = t.more from cutD_drop _ 2 (by simp)] at t1
  obtain ⟨a, xs, rfl, ha, ts⟩ := t1.inv
  have hm : t.more.length ≤ 5 := by cases t <;> simp [Tree.more]
  walk_at "rr"
  refine ⟨⟨_, SqT.of ha⟩, ?_⟩
  refine lcW (walk_tup (xs := xs)) (by rw [ts.1]; omega) [] (fun i acc H' => TDs H' acc ((t.more.take i).filter isTupD)) (fun H2 k => SqT.of (k.atT ha)) (fun _ _ _ _ => .nil) ?_ ?_
  · rintro i z D0 acc H2 H3 hi hD hl2 k2 hdd r ⟨rfl, hz⟩
    rw [ts.1] at hi
    obtain ⟨d, hd, htd⟩ := ts.get' hz
    have htd := htd.mono k2
    walk_at "rr"
    refine ⟨rfl, ?_⟩
    walk_at "rr"
    have no : isTupD d = false → TDs H3 acc ((t.more.take (i + 1)).filter isTupD) := fun h => by
      rw [take_snoc2 hd, List.filter_append]
      simpa [h] using r
    cases htd with
    | int j =>
      walk_at "rr"
      refine r_no rfl ?_
      exact ⟨acc, by omega, k2, hdd, no rfl⟩
    | str s =>
      walk_at "rr"
      refine r_no rfl ?_
      exact ⟨acc, by omega, k2, hdd, no rfl⟩
    | tup b1 b2 b3 =>
      refine r_isi_tup (.tup b1 b2 b3) ?_
      walk_at "rr"
      refine r_yes rfl ?_
      walk_at "rr"
      refine lc_fin hD (by omega) hl2 k2 hdd fun H6 k6 => ?_
      show TDs _ _ ((t.more.take (i + 1)).filter isTupD)
      rw [take_snoc2 hd, List.filter_append]
      exact (r.snoc (TD.tup b1 b2 b3)).mono k6
  · intro D0 acc H2 hD _ k2 hdd r
    rw [ts.1, List.take_length, more_subs h1 h2] at r
    walk_at "rr"
    exact q D0 acc H2 (k1.trans k2) (k1.free hD) hdd r
end
section
variable {P : Program} {w : World} {K : PySem.W.Frag} {mg : Str → Option Value} {base : Heap}
def sp_law_count (n : Nat) : Sp := fun vs H Q _ => ∃ (v : V) (t : Tree), vs = [v] ∧ TD H v (tr t) ∧ Dep n t ∧ AllT okN t ∧ ∀ H', Kp [] H H' → Q (.int ((sz t : Nat) : Int)) H'
theorem sc__law_count : FnScope ["tree", "one"] ["tree"] (defScope s__law_count) := ⟨rfl, rfl, rfl, by decide +kernel, rfl, by decide +kernel, by decide +kernel⟩
theorem c_law_count0 (T : Txt K mg) : Cal P w K mg base 2 "_law_count" ["tree"] (sp_law_count 0) := by
  obtain ⟨fd, F⟩ := T.F__law_count
  have no : ∀ vs H Q E, ¬ sp_law_count 0 vs H Q E := fun vs H Q E h => by
    obtain ⟨_, _, _, _, d, _⟩ := h
    cases d
  exact mk_cal F T.g__law_count (fun _ _ _ _ _ _ us hl => match us, hl with | [_], _ => rfl) ⟨fun vs H Q E h => absurd h (no vs H Q E), fun A outer s H args us vs Q E _ _ _ _ h => absurd h (no vs H Q E)⟩
theorem c_law_count1 {n : Nat} (T : Txt K mg) (C__law_subs : Cal P w K mg base 1 "_law_subs" ["tree"] sp_subtrees) (C__law_count : Cal P w K mg base (n + 2) "_law_count" ["tree"] (sp_law_count n)) : Cal P w K mg base (n + 3) "_law_count" ["tree"] (sp_law_count (n + 1)) := by
  obtain ⟨fd, F⟩ := T.F__law_count
  refine mk_cal F T.g__law_count (fun _ _ _ _ _ _ us hl => match us, hl with | [_], _ => rfl) (mk_ok F sc__law_count (by walk_at "len") fun cdv A outer s H vs Q E hr h => ?_)
  obtain ⟨v, t, rfl, hv, hdp, ok, q⟩ := h
  refine ⟨_, (pss_one (ps_ret (pe_op op_add pe_int (pe_callB (cr_sum rfl) (by rfl) T.b_sum (by decide +kernel) (pa_cons (pe_lc (own := [("one", 1)]) (g := (gName 1)) (tt := tYes) rfl sc__law_count.nd (pi_list (pe_cal C__law_subs hr (pa_cons (pv 0) pa_nil))) (blkOk_by (own := [("one", 1)]) (N := ["tree", "one"]) (sc := defScope s__law_count) (by decide +kernel)) (fun _ _ _ _ _ => (pg_name (i := 1) sc__law_count.nd rfl (by first | exact Or.inl rfl | exact Or.inr rfl))) (fun _ _ _ _ _ => pts_nil) (fun _ _ _ _ _ => (pe_cal C__law_count hr (pa_cons (pv 1) pa_nil)))) pa_nil))))), ?_⟩
  walk_at "rr"
  refine ⟨v, t, rfl, hv, fun l ys H1 k1 n1 e1 t1 => ?_⟩
  walk_at "r"
  refine ⟨⟨_, SqL.of e1⟩, ?_⟩
  have few := subs_few ok.here
  have hlen : ys.length = t.subs.length := by rw [t1.1, List.length_map]
  refine lcW (walk_list (xs := ys)) (by omega) [] (fun i acc _ => acc = ((t.subs.take i).map fun s => ((sz s : Nat) : Int)).map V.int) (fun H2 k => SqL.of (k.at e1 ni0)) (fun _ _ _ _ => rfl) ?_ ?_
  · rintro i z D0 acc H2 H3 hi hD hl2 k2 hdd rfl ⟨rfl, hz⟩
    obtain ⟨s, hs, his, hts⟩ := t1.map_get hz
    walk_at "rr"
    refine ⟨rfl, ?_⟩
    walk_at "rr"
    refine r_yes rfl ?_
    walk_at "rr"
    refine ⟨z, s, rfl, hts.mono k2, hdp.sub hs, ok.sub hs, fun H4 k4 => ?_⟩
    refine lc_fin hD (by omega) hl2 (k2.trans k4) (k4.at hdd ni0) fun H6 k6 => ?_
    show _ = _
    rw [take_snoc2 his, List.map_append, List.map_append]
    rfl
  · rintro D0 acc H2 hD hl2 k2 hdd rfl
    rw [hlen, List.take_length] at hdd
    walk_at "rr"
    refine ⟨D0, _, rfl, SqL.of hdd, ?_⟩
    have e : ∀ us : List Tree, (us.map fun s => ((sz s : Nat) : Int)).sum = ((szs us : Nat) : Int) := by
      intro us
      induction us with
      | nil => rfl
      | cons u us ih => simp [szs, ih]
    walk_at "rr"
    have h := q H2 (k1.trans k2)
    rw [szs_eq] at h
    rw [e]
    have e2 : (1 : Int) + ((szs t.subs : Nat) : Int) = ((1 + szs t.subs : Nat) : Int) := by omega
    rw [e2]
    exact h
theorem c_law_count (T : Txt K mg) (C__law_subs : Cal P w K mg base 1 "_law_subs" ["tree"] sp_subtrees) : ∀ n, Cal P w K mg base (n + 2) "_law_count" ["tree"] (sp_law_count n)
  | 0 => c_law_count0 T
  | n + 1 => c_law_count1 T C__law_subs (c_law_count T C__law_subs n)
end
section
variable {P : Program} {w : World} {K : PySem.W.Frag} {mg : Str → Option Value} {base : Heap}
theorem r_eq_kd2 {H : Hp} {Q : VK} {x y : V} {j k : Kd} (h1 : TD H x (kd j)) (h2 : TD H y (kd k)) (m : k.dp ≤ 100) (q : Q (.bl (decide (j = k))) H) : rEqX K x y H Q :=
  r_eq_td h1 h2 (kd_lay j) (kd_lay k) (by have := kd_dep k; omega) (by rw [kd_eqv]; exact q)
def sp_law_put (n : Nat) : Sp := fun vs H Q _ => ∃ (kv fv ov : V) (k o : Kd) (f : Int), vs = [kv, fv, ov] ∧ TD H kv (kd k) ∧ TD H fv (kd (.any f)) ∧ TD H ov (kd o) ∧ k.dp < n ∧ ∀ v H', Kp [] H H' → TD H' v (kd (rep f o k)) → Q v H'
theorem sc__law_put : FnScope ["kind", "free", "other"] ["kind", "free", "other"] (defScope s__law_put) := ⟨rfl, rfl, rfl, by decide +kernel, rfl, by decide +kernel, by decide +kernel⟩
theorem c_law_put0 (T : Txt K mg) : Cal P w K mg base 2 "_law_put" ["kind", "free", "other"] (sp_law_put 0) := by
  obtain ⟨fd, F⟩ := T.F__law_put
  have no : ∀ vs H Q E, ¬ sp_law_put 0 vs H Q E := fun vs H Q E h => by
    obtain ⟨_, _, _, _, _, _, _, _, _, _, d, _⟩ := h
    omega
  exact mk_cal F T.g__law_put (fun _ _ _ _ _ _ us hl => match us, hl with | [_, _, _], _ => rfl) ⟨fun vs H Q E h => absurd h (no vs H Q E), fun A outer s H args us vs Q E _ _ _ _ h => absurd h (no vs H Q E)⟩
theorem c_law_put1 {n : Nat} (T : Txt K mg) (C__law_put : Cal P w K mg base (n + 2) "_law_put" ["kind", "free", "other"] (sp_law_put n)) : Cal P w K mg base (n + 3) "_law_put" ["kind", "free", "other"] (sp_law_put (n + 1)) := by
  obtain ⟨fd, F⟩ := T.F__law_put
  refine mk_cal F T.g__law_put (fun _ _ _ _ _ _ us hl => match us, hl with | [_, _, _], _ => rfl) (mk_ok F sc__law_put (by walk_at "len") fun cdv A outer s H vs Q E hr h => ?_)
  obtain ⟨kv, fv, ov, k, o, f, rfl, hk, hf, ho, hd, q⟩ := h
  refine ⟨_, (pss_cons (ps_if (pt_cmpR (op_eqXK (K := K) hr rfl) (pv 0) (pv 1) (nomark _)) (pss_one (ps_ret (pv 2))) pss_nil) (pss_cons (ps_if (pt_cmpR (op_eqXK (K := K) hr rfl) (pe_ix (ix_seqK (K := K) rfl) (pv 0) pe_int (fun _ _ => rfl)) pe_str (nomark _)) (pss_one (ps_ret (pe_tupK (pa_cons pe_str (pa_cons (pe_cal C__law_put hr (pa_cons (pe_ix (ix_seqK (K := K) rfl) (pv 0) pe_int (fun _ _ => rfl)) (pa_cons (pv 1) (pa_cons (pv 2) pa_nil)))) pa_nil))))) pss_nil) (pss_one (ps_ret (pv 0))))), ?_⟩
  walk_at "rr"
  refine r_eq_kd2 hk hf (by simp [Kd.dp]) ?_
  walk_at "rr"
  cases k with
  | any m =>
    by_cases hm : m = f
    · subst hm
      refine r_yes (by simp) ?_
      walk_at "rr"
      exact q _ H (Kp.refl _ _) (by simpa [rep, ap] using ho)
    · refine r_no (by simp [hm]) ?_
      walk_at "rr"
      refine r_k0 hk ?_
      walk_at "rr"
      refine r_no (k0_any_l _) ?_
      walk_at "rr"
      exact q _ H (Kp.refl _ _) (by simpa [rep, ap, hm] using hk)
  | num =>
    refine r_no rfl ?_
    walk_at "rr"
    refine r_k0 hk ?_
    walk_at "rr"
    refine r_no k0_num_l ?_
    walk_at "rr"
    exact q _ H (Kp.refl _ _) hk
  | lst k =>
    refine r_no rfl ?_
    walk_at "rr"
    refine r_k0 hk ?_
    walk_at "rr"
    refine r_yes (k0_lst_l _) ?_
    walk_at "rr"
    refine r_k1_lst hk fun y hy => ?_
    walk_at "rr"
    simp [Kd.dp] at hd
    refine ⟨y, fv, ov, k, o, f, rfl, hy, hf, ho, by omega, fun v H1 k1 t1 => ?_⟩
    refine ⟨by simp, fun p H2 k2 n2 e2 => ?_⟩
    exact q _ H2 (k1.trans k2) (TD.mk e2 (.cons (.str _) (.cons (t1.mono k2) .nil)))
theorem c_law_put (T : Txt K mg) : ∀ n, Cal P w K mg base (n + 2) "_law_put" ["kind", "free", "other"] (sp_law_put n)
  | 0 => c_law_put0 T
  | n + 1 => c_law_put1 T (c_law_put T n)
end
section
variable {P : Program} {w : World} {K : PySem.W.Frag} {mg : Str → Option Value} {base : Heap}
def withT : Tree → List Tree → Tree
  | .use p x _, us => .use p x us
  | .cs p _ _ h t _, [a, b, c] => .cs p a b h t c
  | .op p s _ _, [a, b] => .op p s a b
  | .ite p _ _ _, [a, b, c] => .ite p a b c
  | .lt p x _ _, [a, b] => .lt p x a b
  | t, _ => t
def sp_law_with : Sp := fun vs H Q _ => ∃ (v : V) (t : Tree) (l : Addr) (xs : List V) (us : List Tree), vs = [v, .ref l] ∧ TD H v (tr t) ∧ H l = some (.lst xs) ∧ TDs H xs (us.map tr) ∧ us.length = t.subs.length ∧ us.length ≤ 4 ∧ ∀ v' H', Kp [] H H' → TD H' v' (tr (withT t us)) → Q v' H'
theorem sc__law_with : FnScope ["tree", "trees"] ["tree", "trees"] (defScope s__law_with) := ⟨rfl, rfl, rfl, by decide +kernel, rfl, by decide +kernel, by decide +kernel⟩
theorem c_law_with (T : Txt K mg) : Cal P w K mg base 1 "_law_with" ["tree", "trees"] sp_law_with := by
  obtain ⟨fd, F⟩ := T.F__law_with
  refine mk_cal F T.g__law_with (fun _ _ _ _ _ _ us hl => match us, hl with | [_, _], _ => rfl) (mk_ok F sc__law_with (by walk_at "len") fun cdv A outer s H vs Q E hr h => ?_)
  obtain ⟨v, t, l, xs, us, rfl, hv, hl, ts, hus, few, q⟩ := h
  refine ⟨_, (pss_cons (ps_if (pt_cmpR (op_eqXK (K := K) hr rfl) (pe_ix (ix_seqK (K := K) rfl) (pv 0) pe_int (fun _ _ => rfl)) pe_str (nomark _)) (pss_one (ps_ret (pe_op op_catTK (pe_slice sl_tupK (pv 0) po_none (po_some pe_int)) (pe_tupK (pa_cons (pe_callTy (call_tupleKK (K := K) rfl) (by rfl) T.b_tuple (by decide +kernel) (pa_cons (pv 1) pa_nil)) pa_nil))))) pss_nil) (pss_cons (ps_if (pt_cmpR (op_eqXK (K := K) hr rfl) (pe_ix (ix_seqK (K := K) rfl) (pv 0) pe_int (fun _ _ => rfl)) pe_str (nomark _)) (pss_one (ps_ret (pe_op op_catTK (pe_op op_catTK (pe_op op_catTK (pe_slice sl_tupK (pv 0) po_none (po_some pe_int)) (pe_tupK (pa_cons (pe_ix (ix_seqK (K := K) rfl) (pv 1) pe_int (fun _ _ => rfl)) (pa_cons (pe_ix (ix_seqK (K := K) rfl) (pv 1) pe_int (fun _ _ => rfl)) pa_nil)))) (pe_slice sl_tupK (pv 0) (po_some pe_int) (po_some pe_int))) (pe_tupK (pa_cons (pe_ix (ix_seqK (K := K) rfl) (pv 1) pe_int (fun _ _ => rfl)) pa_nil))))) pss_nil) (pss_one (ps_ret (pe_op op_catTK (pe_slice sl_tupK (pv 0) po_none (po_some (pe_op op_sub (pe_callB (call_lenKK (K := K) rfl) (by rfl) T.b_len PySem.boot_len (pa_cons (pv 0) pa_nil)) (pe_callB (call_lenKK (K := K) rfl) (by rfl) T.b_len PySem.boot_len (pa_cons (pv 1) pa_nil))))) (pe_callTy (call_tupleKK (K := K) rfl) (by rfl) T.b_tuple (by decide +kernel) (pa_cons (pv 1) pa_nil))))))), ?_⟩
  have hv2 := hv
  rw [tr_eq] at hv2
  walk_at "rr"
  refine r_ix_str hv2 0 rfl ?_
  walk_at "rr"
  by_cases h1 : t.word = "use"
  · refine r_yes (decide_eq_true h1) ?_
    cases t <;> first | (exfalso; revert h1; simp only [Tree.word]; decide +kernel) | skip
    rename_i p x as
    rw [tr_use] at hv
    walk_at "rr"
    refine ⟨_, hv, fun y H1 k1 t1 => ?_⟩
    rw [show cutD [PyData.str "use", pl p, .str x, .tuple (as.map tr)] none (some 3) = [PyData.str "use", pl p, .str x] from cutD_take _ 3 (by simp)] at t1
    walk_at "rr"
    refine r_tuple_l (k1.at hl ni0) (ts.mono k1) fun z H2 k2 t2 => ?_
    walk_at "rr"
    refine ⟨by simp, fun p3 H3 k3 n3 e3 => ?_⟩
    refine ⟨_, [.tuple (us.map tr)], t1.mono (k2.trans k3), TD.mk e3 (.one (t2.mono k3)), by simp, fun u H4 k4 t4 => ?_⟩
    walk_at "rr"
    refine q u H4 (k1.trans (k2.trans (k3.trans k4))) ?_
    show TD H4 u (tr (.use p x us))
    rw [tr_use]
    exact t4
  refine r_no (decide_eq_false h1) ?_
  walk_at "rr"
  refine r_ix_str hv2 0 rfl ?_
  walk_at "rr"
  by_cases h2 : t.word = "case"
  · refine r_yes (decide_eq_true h2) ?_
    cases t <;> first | (exfalso; revert h2; simp only [Tree.word]; decide +kernel) | skip
    rename_i p w' e hh tt b
    match us, hus with
    | [a1, a2, a3], _ =>
      rw [tr_cs] at hv
      obtain ⟨x1, ys, rfl, g1, ts'⟩ := TDs.cons_inv (show TDs H xs [tr a1, tr a2, tr a3] from ts)
      obtain ⟨x2, ys, rfl, g2, ts'⟩ := ts'.cons_inv
      obtain ⟨x3, ys, rfl, g3, ts'⟩ := ts'.cons_inv
      cases ts'.nil_inv
      walk_at "rr"
      refine ⟨_, hv, fun y H1 k1 t1 => ?_⟩
      rw [show cutD [PyData.str "case", pl p, tr w', tr e, .str hh, .str tt, tr b] none (some 2) = [PyData.str "case", pl p] from cutD_take _ 2 (by simp)] at t1
      walk_at "rr"
      refine r_ixL (k1.at hl ni0) 0 rfl ?_
      walk_at "rr"
      refine r_ixL (k1.at hl ni0) 1 rfl ?_
      walk_at "rr"
      refine ⟨by simp, fun p2 H2 k2 n2 e2 => ?_⟩
      refine ⟨_, [tr a1, tr a2], t1.mono k2, TD.mk e2 ((TDs.cons g1 (.one g2)).mono (k1.trans k2)), by simp, fun u H3 k3 t3 => ?_⟩
      have k03 := k1.trans (k2.trans k3)
      walk_at "rr"
      refine ⟨_, hv.mono k03, fun y4 H4 k4 t4 => ?_⟩
      rw [show cutD [PyData.str "case", pl p, tr w', tr e, .str hh, .str tt, tr b] (some 4) (some 6) = [PyData.str hh, .str tt] from rfl] at t4
      refine ⟨_, _, t3.mono k4, t4, by simp, fun u5 H5 k5 t5 => ?_⟩
      have k05 := k03.trans (k4.trans k5)
      walk_at "rr"
      refine r_ixL (k05.at hl ni0) 2 rfl ?_
      walk_at "rr"
      refine ⟨by simp, fun p6 H6 k6 n6 e6 => ?_⟩
      refine ⟨_, [tr a3], t5.mono k6, TD.mk e6 (.one (g3.mono (k05.trans k6))), by simp, fun u7 H7 k7 t7 => ?_⟩
      walk_at "rr"
      refine q u7 H7 (k05.trans (k6.trans k7)) ?_
      show TD H7 u7 (tr (.cs p a1 a2 hh tt a3))
      rw [tr_cs]
      exact t7
  refine r_no (decide_eq_false h2) ?_
  walk_at "rr"
  refine r_len_td hv2 ?_
  walk_at "rr"
  refine r_len_l hl ?_
  have hxl : xs.length = us.length := by rw [ts.1, List.length_map]
  walk_at "rr"
  refine ⟨_, hv2, fun y H1 k1 t1 => ?_⟩
  have hle : xs.length ≤ (PyData.str t.word :: pl t.place :: t.more).length := by
    rw [hxl, hus]
    cases t <;> simp [Tree.subs, Tree.more]
    all_goals first | (exfalso; exact h1 rfl) | (exfalso; exact h2 rfl) | skip
  have ei : (((PyData.str t.word :: pl t.place :: t.more).length : Nat) : Int) - ((xs.length : Nat) : Int) = (((PyData.str t.word :: pl t.place :: t.more).length - xs.length : Nat) : Int) := by omega
  rw [ei, cutD_take _ _ (by omega)] at t1
  walk_at "rr"
  refine r_tuple_l (k1.at hl ni0) (ts.mono k1) fun z H2 k2 t2 => ?_
  walk_at "rr"
  have hml : t.more.length ≤ 5 := by cases t <;> simp [Tree.more]
  refine ⟨_, _, t1.mono k2, t2, by rw [List.length_take, List.length_map]; simp; omega, fun u H3 k3 t3 => ?_⟩
  walk_at "rr"
  refine q u H3 (k1.trans (k2.trans k3)) ?_
  have e : tr (withT t us) = .tuple ((PyData.str t.word :: pl t.place :: t.more).take ((PyData.str t.word :: pl t.place :: t.more).length - xs.length) ++ us.map tr) := by
    rw [hxl]
    cases t with
    | use p x as => exact absurd rfl h1
    | cs p w e h t b => exact absurd rfl h2
    | num p n => match us, hus with | [], _ => simp [withT, tr_num, Tree.word, Tree.place, Tree.more]
    | nil p => match us, hus with | [], _ => simp [withT, tr_nil, Tree.word, Tree.place, Tree.more]
    | op p s l r => match us, hus with | [a, b], _ => simp [withT, tr_op, Tree.word, Tree.place, Tree.more]
    | ite p c y n => match us, hus with | [a, b, c], _ => simp [withT, tr_ite, Tree.word, Tree.place, Tree.more]
    | lt p x a b => match us, hus with | [a, b], _ => simp [withT, tr_lt, Tree.word, Tree.place, Tree.more]
  rw [e]
  exact t3
end
section
variable {P : Program} {w : World} {K : PySem.W.Frag} {mg : Str → Option Value} {base : Heap}
/-- a drawn program -/
structure PG (p : List Df) : Prop where
  pos : 1 ≤ p.length
  few : p.length ≤ 4
  sound : Sound p
  size : 6 * szP p ≤ 290
def isK (x : Str) : Prop := x = "n" ∨ x = "l"
theorem isK.ok {x : Str} (h : isK x) : PyData.strOk x = true := by
  rcases h with rfl | rfl <;> decide +kernel
theorem nl_at {n : Nat} (h : n < 2) : ∃ s : Str, isK s ∧ ([V.str "n", V.str "l"] : List V)[n]? = some (.str s) := by
  match n, h with
  | 0, _ => exact ⟨"n", .inl rfl, rfl⟩
  | 1, _ => exact ⟨"l", .inr rfl, rfl⟩
/-- lists of texts compared -/
theorem r_eq_strs {H : Hp} {Q : VK} {l p : Addr} {ns ms : List Str} (h : H l = some (.lst (ns.map V.str))) (hp : H p = some (.lst (ms.map V.str))) (hn : ∀ x ∈ ns, PyData.strOk x = true) (hm : ∀ x ∈ ms, PyData.strOk x = true) (q : Q (.bl (decide (ns = ms))) H) : rEqX K (.ref l) (.ref p) H Q := by
  have d2 : PyData.depth (.list (ms.map .str)) ≤ 200 := by
    have : ∀ zs : List Str, PyData.depthAll (zs.map PyData.str) = 0 := by
      intro zs
      induction zs with
      | nil => simp [PyData.depthAll]
      | cons z zs ih => simp [PyData.depthAll, PyData.depth, ih]
    simp [PyData.depth, this]
  refine .inr ⟨.list (ns.map .str), .list (ms.map .str), .lst (SqL.of h) (dp_strs ns), .lst (SqL.of hp) (dp_strs ms), by simp [PyData.canLay0, lay_strs ns hn], by simp [PyData.canLay0, lay_strs ms hm], by omega, ?_⟩
  have e : ∀ ns ms : List Str, PyData.eqvAll (ns.map .str) (ms.map .str) = decide (ns = ms) := by
    intro ns
    induction ns with
    | nil => intro ms; cases ms <;> simp [PyData.eqvAll]
    | cons n ns ih =>
      intro ms
      cases ms with
      | nil => simp [PyData.eqvAll]
      | cons m ms => simp [PyData.eqvAll, PyData.eqv, ih ms, Bool.beq_eq_decide_eq]
  have e2 : PyData.eqv (.list (ns.map .str)) (.list (ms.map .str)) = decide (ns = ms) := by
    rw [← e]
    simp [PyData.eqv]
  simp only [Bool.false_eq_true, if_false]
  rw [e2]
  exact q
/-- so many names from one on, around -/
def pk (names : List Str) (n m : Nat) : List Str := (List.range m).map fun j => names.getD ((n + j) % 8) ""
theorem pk_len (names : List Str) (n m : Nat) : (pk names n m).length = m := by simp [pk]
theorem pk_mem {names : List Str} (h8 : names.length = 8) {n m : Nat} : ∀ x ∈ pk names n m, x ∈ names := fun x hx => by
  obtain ⟨j, _, rfl⟩ := List.mem_map.mp hx
  have hj : (n + j) % 8 < names.length := by
    rw [h8]
    exact Nat.mod_lt _ (by decide)
  rw [List.getD_eq_getElem?_getD, List.getElem?_eq_getElem hj]
  exact List.getElem_mem hj
theorem pk_nodup {names : List Str} (h8 : names.length = 8) (nd : names.Nodup) {n m : Nat} (hm : m ≤ 8) : (pk names n m).Nodup := by
  refine List.pairwise_map.mpr (List.Pairwise.imp_of_mem (fun {i j} hi hj hne e => hne ?_) List.nodup_range)
  have hi := List.mem_range.mp hi
  have hj := List.mem_range.mp hj
  have l1 : (n + i) % 8 < names.length := by rw [h8]; exact Nat.mod_lt _ (by decide)
  have l2 : (n + j) % 8 < names.length := by rw [h8]; exact Nat.mod_lt _ (by decide)
  rw [List.getD_eq_getElem?_getD, List.getD_eq_getElem?_getD, List.getElem?_eq_getElem l1, List.getElem?_eq_getElem l2] at e
  have e : names[(n + i) % 8] = names[(n + j) % 8] := e
  have := (List.getElem_inj nd).mp e
  omega
theorem zip_td {H : Hp} : ∀ {ts : List Addr} {xs ks : List Str}, Paired (fun (t : Addr) (q : V × V) => H t = some (.tup [q.1, q.2])) ts ((xs.map V.str).zip (ks.map V.str)) → TDs H (ts.map V.ref) ((xs.zip ks).map fun q => .tuple [.str q.1, .str q.2])
  | [], [], _, _ => .nil
  | [], _ :: _, [], _ => .nil
  | [], _ :: _, _ :: _, h => by cases h
  | _ :: _, [], _, h => by cases h
  | _ :: _, _ :: _, [], h => by cases h
  | t :: ts, x :: xs, k :: ks, h => by
    cases h with
    | cons h1 h2 => exact .cons (TD.mk h1 (.cons (.str _) (.cons (.str _) .nil))) (zip_td h2)
/-- the arities that heads tell -/
def arH (hs : List Hd) (x : Str) : Option Nat := (hs.find? fun h => h.1 == x).map fun h => h.2.1.length
theorem arH_at {hs : List Hd} (nd : (hs.map Prod.fst).Nodup) {h : Hd} (hh : h ∈ hs) : arH hs h.1 = some h.2.1.length := by
  unfold arH
  induction hs with
  | nil => cases hh
  | cons g hs ih =>
    rw [List.map_cons, List.nodup_cons] at nd
    rcases List.mem_cons.mp hh with e | hh
    · subst e
      simp
    · have ne : g.1 ≠ h.1 := fun e => nd.1 (by rw [e]; exact List.mem_map_of_mem hh)
      rw [List.find?_cons_of_neg (by simp [ne])]
      exact ih nd.2 hh
/-- a def that was drawn to a head -/
structure DfOf (hs : List Hd) (n : Nat) (h : Hd) (d : Df) : Prop where
  name : d.name = h.1
  len : d.params.length = h.2.1.length
  ok : okDf d
  nd : d.params.Nodup
  snd : Snd (arH hs) d.params d.body
  sz : sz d.body ≤ 20 / n + 6 ∨ sz d.body ≤ 9
theorem arL_arH {hs : List Hd} {n : Nat} : ∀ {gs : List Hd} {p : List Df}, p.length = gs.length → (∀ (j : Nat) h d, gs[j]? = some h → p[j]? = some d → DfOf hs n h d) → arL p = arH gs
  | [], [], _, _ => rfl
  | [], _ :: _, h, _ => by simp at h
  | _ :: _, [], h, _ => by simp at h
  | g :: gs, d :: p, hl, h => by
    have ih := arL_arH (gs := gs) (p := p) (by simpa using hl) fun j h' d' a b => h (j + 1) h' d' (by simpa using a) (by simpa using b)
    have h0 := h 0 g d rfl rfl
    funext x
    rw [arL_cons, ih]
    unfold arH
    by_cases e : g.1 = x
    · rw [if_pos (h0.name.trans e), List.find?_cons_of_pos (by simp [e]), h0.len]
      rfl
    · rw [if_neg (fun z => e (h0.name.symm.trans z)), List.find?_cons_of_neg (by simp [e])]
theorem szP_of {hs : List Hd} {n : Nat} : ∀ {gs : List Hd} {p : List Df}, p.length = gs.length → (∀ (j : Nat) h d, gs[j]? = some h → p[j]? = some d → DfOf hs n h d) → szP p ≤ p.length * (max (20 / n + 6) 9 + 1)
  | [], [], _, _ => by simp [szP]
  | [], _ :: _, h, _ => by simp at h
  | _ :: _, [], h, _ => by simp at h
  | g :: gs, d :: p, hl, h => by
    have ih := szP_of (gs := gs) (p := p) (by simpa using hl) fun j h' d' a b => h (j + 1) h' d' (by simpa using a) (by simpa using b)
    have h0 := (h 0 g d rfl rfl).sz
    simp only [szP, List.map_cons, List.sum_cons, List.length_cons] at ih ⊢
    rw [Nat.succ_mul]
    omega
theorem PG.of {hs : List Hd} {p : List Df} (hl : p.length = hs.length) (h1 : 1 ≤ hs.length) (h4 : hs.length ≤ 4) (nd : (hs.map Prod.fst).Nodup) (h : ∀ (j : Nat) h d, hs[j]? = some h → p[j]? = some d → DfOf hs hs.length h d) : PG p := by
  have all : ∀ d ∈ p, ∃ h, DfOf hs hs.length h d := fun d hd => by
    obtain ⟨j, hj⟩ := List.getElem?_of_mem hd
    have hjl : j < hs.length := by
      rw [← hl]
      exact (List.getElem?_eq_some_iff.mp hj).1
    exact ⟨_, h j _ d (List.getElem?_eq_getElem hjl) hj⟩
  have en : p.map Df.name = hs.map Prod.fst := by
    refine List.ext_getElem? fun j => ?_
    rw [List.getElem?_map, List.getElem?_map]
    by_cases hj : j < hs.length
    · have hjp : j < p.length := by omega
      rw [List.getElem?_eq_getElem hj, List.getElem?_eq_getElem hjp]
      exact congrArg some (h j _ _ (List.getElem?_eq_getElem hj) (List.getElem?_eq_getElem hjp)).name
    · rw [List.getElem?_eq_none (by omega), List.getElem?_eq_none (by omega)]
      rfl
  refine ⟨by omega, by omega, ⟨by omega, fun d hd => (all d hd).elim fun _ x => x.ok, by rw [en]; exact nd, fun d hd => (all d hd).elim fun _ x => x.nd, fun d hd => ?_⟩, ?_⟩
  · rw [arL_arH hl h]
    exact (all d hd).elim fun _ x => x.snd
  · have := szP_of hl h
    have e4 : ∀ n, 1 ≤ n → n ≤ 4 → 6 * (n * (max (20 / n + 6) 9 + 1)) ≤ 290 := by
      intro n h1 h4
      match n, h1, h4 with
      | 1, _, _ => decide
      | 2, _, _ => decide
      | 3, _, _ => decide
      | 4, _, _ => decide
    have := e4 hs.length h1 h4
    rw [hl] at *
    omega
def sp_law_program : Sp := fun vs H Q _ => ∃ (dl : Addr), vs = [.ref dl, .int 20, .int 4] ∧ DrAt H dl ∧ ∀ a v v' H' p, Kp [dl] H H' → DrAt H' dl → H' a = some (.tup [v, v']) → TD H' v (.tuple (p.map df)) → PG p → Q (.ref a) H'
end
section
variable {P : Program} {w : World} {K : PySem.W.Frag} {mg : Str → Option Value} {base : Heap}
/-- a head that stands, its list at none of M -/
def HdQ (H : Hp) (M : List Addr) (v : V) (h : Hd) : Prop := ∃ p q, v = .ref p ∧ H p = some (.tup [.str h.1, .ref q, .str h.2.2]) ∧ H q = some (.lst (h.2.1.map V.str)) ∧ q ∉ M
theorem HdQ.mono {H H' : Hp} {M M' : List Addr} {v : V} {h : Hd} (x : HdQ H M v h) (k : Kp M' H H') (s : ∀ b ∈ M', b ∈ M) : HdQ H' M v h := by
  obtain ⟨p, q, h1, h2, h3, h4⟩ := x
  exact ⟨p, q, h1, k.atT h2, k.at h3 fun z => h4 (s q z), h4⟩
theorem HdQ.hdV {H : Hp} {dl wl hl : Addr} {v : V} {h : Hd} (x : HdQ H [dl, wl, hl] v h) : HdV H dl wl v h := by
  obtain ⟨p, q, h1, h2, h3, h4⟩ := x
  exact ⟨p, q, h1, h2, h3, fun z => h4 (by simp at z ⊢; rcases z with z | z <;> simp [z])⟩
/-- heads at a list, drawn from the names -/
structure HsAt (H : Hp) (dl wl hl : Addr) (names : List Str) (hs : List Hd) : Prop where
  at_ : ∃ vs, H hl = some (.lst vs) ∧ vs.length = hs.length ∧ ∀ (j : Nat) v h, vs[j]? = some v → hs[j]? = some h → HdQ H [dl, wl, hl] v h
  nm : ∀ (j : Nat) h, hs[j]? = some h → names[j]? = some h.1
  few : ∀ h ∈ hs, h.2.1.length ≤ 3 ∧ (∀ k ∈ h.2.1, isK k) ∧ isK h.2.2
theorem HsAt.mono {H H' : Hp} {M : List Addr} {dl wl hl : Addr} {names : List Str} {hs : List Hd} (S : HsAt H dl wl hl names hs) (k : Kp M H H') (s : ∀ b ∈ M, b ∈ [dl, wl]) (n : hl ∉ [dl, wl]) : HsAt H' dl wl hl names hs := by
  obtain ⟨vs, h1, h2, h3⟩ := S.at_
  exact ⟨⟨vs, k.at h1 fun z => n (s _ z), h2, fun j v h a b => (h3 j v h a b).mono k fun b hb => by have := s b hb; simp at this ⊢; rcases this with z | z <;> simp [z]⟩, S.nm, S.few⟩
theorem get_snoc {α : Type} {l : List α} {x y : α} {j : Nat} (h : (l ++ [x])[j]? = some y) : l[j]? = some y ∨ (j = l.length ∧ y = x) := by
  by_cases hj : j < l.length
  · rw [List.getElem?_append_left hj] at h
    exact .inl h
  · rw [List.getElem?_append_right (by omega)] at h
    by_cases e : j = l.length
    · subst e
      simp at h
      exact .inr ⟨rfl, h.symm⟩
    · rw [List.getElem?_eq_none (by simp; omega)] at h
      cases h
theorem HsAt.nd {H : Hp} {dl wl hl : Addr} {names : List Str} {hs : List Hd} (S : HsAt H dl wl hl names hs) (nd : names.Nodup) : (hs.map Prod.fst).Nodup := by
  have e : hs.map Prod.fst = names.take hs.length := by
    refine List.ext_getElem? fun j => ?_
    rw [List.getElem?_map, List.getElem?_take]
    by_cases hj : j < hs.length
    · rw [if_pos hj, List.getElem?_eq_getElem hj, S.nm j _ (List.getElem?_eq_getElem hj)]
      rfl
    · rw [if_neg hj, List.getElem?_eq_none (by omega)]
      rfl
  rw [e]
  exact nd.sublist (List.take_sublist _ _)
theorem cutV_take (xs : List V) (i : Nat) (h : i ≤ xs.length) : cutV xs none (some (i : Int)) = xs.take i := by
  unfold cutV
  rw [HT.sIx_none, HT.sIx_nat, Nat.min_eq_left h]
  simp
theorem Ev.of {H : Hp} {dl wl nl hl' : Addr} {names : List Str} {hs hs' : List Hd} {vs' : List V} (en : H nl = some (.lst (names.map V.str))) (h8 : names.length = 8) (nok : ∀ x ∈ names, okName x) (nnd : names.Nodup) (nn : nl ∉ [dl, wl]) (hn : hl' ∉ [dl, wl]) (few4 : hs.length ≤ 4)
    (nm : ∀ (j : Nat) h, hs[j]? = some h → names[j]? = some h.1) (few : ∀ h ∈ hs, h.2.1.length ≤ 3 ∧ (∀ k ∈ h.2.1, isK k) ∧ isK h.2.2) (hnd : (hs.map Prod.fst).Nodup) (e : H hl' = some (.lst vs')) (hl : vs'.length = hs'.length)
    (hv : ∀ (j : Nat) v h, vs'[j]? = some v → hs'[j]? = some h → HdV H dl wl v h) (sub : ∀ h ∈ hs', h ∈ hs) (l : hs'.length ≤ hs.length) : Ev H dl wl nl hl' names hs' (arH hs) :=
  ⟨en, h8, nok, nnd, ⟨vs', e, hl, hv⟩, by omega, fun h hh => by
    obtain ⟨f1, f2, f3⟩ := few h (sub h hh)
    obtain ⟨j, hj⟩ := List.getElem?_of_mem (sub h hh)
    exact ⟨nok _ (List.mem_of_getElem? (nm j h hj)), f1, arH_at hnd (sub h hh), f3.ok, fun k hk => (f2 k hk).ok⟩, nn, hn⟩
theorem cutV_last2 (xs : List V) : cutV xs (some (-1)) none = xs.drop (xs.length - 1) := by
  by_cases h : 1 ≤ xs.length
  · exact cutV_last xs h
  · have e : xs = [] := List.length_eq_zero_iff.mp (by omega)
    rw [e]
    rfl
theorem sc__law_program : FnScope ["draws", "size", "deep", "names", "step", "way", "heads", "k", "params", "j", "alone", "program", "head", "first", "place", "body"] ["draws", "size", "deep"] (defScope s__law_program) := ⟨rfl, rfl, rfl, by decide +kernel, rfl, by decide +kernel, by decide +kernel⟩
theorem c_law_program (T : Txt K mg) (C__law_draw : Cal P w K mg base 1 "_law_draw" ["draws", "many"] sp_law_draw) (C__law_place : Cal P w K mg base 1 "_law_place" ["way"] sp_law_place) (C__law_names : Cal P w K mg base 2 "_law_names" ["draws", "many"] sp_law_names) (C__law_loop : Cal P w K mg base 3 "_law_loop" ["draws", "way", "head", "names"] sp_law_loop)
    (C__law_tree : Cal P w K mg base 11 "_law_tree" ["draws", "way", "want", "near", "deep"] (sp_law_tree 4)) : Cal P w K mg base 12 "_law_program" ["draws", "size", "deep"] sp_law_program := by
  obtain ⟨fd, F⟩ := T.F__law_program
  refine mk_cal F T.g__law_program (fun _ _ _ _ _ _ us hl => match us, hl with | [_, _, _], _ => rfl) (mk_ok F sc__law_program (by walk_at "len") fun cdv A outer s H vs Q E hr h => ?_)
  obtain ⟨dl, rfl, dr, q⟩ := h
  refine ⟨_, (pss_cons (ps_set (i := 3) sc__law_program.nd rfl (by first | exact Or.inl rfl | exact Or.inr rfl) (pe_cal C__law_names hr (pa_cons (pv 0) (pa_cons pe_int pa_nil)))) (pss_cons (ps_set (i := 4) sc__law_program.nd rfl (by first | exact Or.inl rfl | exact Or.inr rfl) (pe_ix (ix_seqK (K := K) rfl) (pe_lstK (pa_cons pe_int (pa_cons pe_int (pa_cons pe_int (pa_cons pe_int (pa_cons pe_int (pa_cons pe_int pa_nil))))))) (pe_cal C__law_draw hr (pa_cons (pv 0) (pa_cons pe_int pa_nil))) (fun _ _ => rfl))) (pss_cons (ps_set (i := 5) sc__law_program.nd rfl (by first | exact Or.inl rfl | exact Or.inr rfl) (pe_lstK (pa_cons (pe_cal C__law_draw hr (pa_cons (pv 0) (pa_cons pe_int pa_nil))) (pa_cons (pv 4) (pa_cons pe_int (pa_cons (pv 3) (pa_cons (pe_lstK pa_nil) (pa_cons (pe_ix (ix_seqK (K := K) rfl) (pe_lstK (pa_cons pe_int (pa_cons pe_int (pa_cons pe_int pa_nil)))) (pe_cal C__law_draw hr (pa_cons (pv 0) (pa_cons pe_int pa_nil))) (fun _ _ => rfl)) pa_nil)))))))) (pss_cons (ps_set (i := 6) sc__law_program.nd rfl (by first | exact Or.inl rfl | exact Or.inr rfl) (pe_lstK pa_nil)) (pss_cons (ps_for PassesOwn.never rfl (pi_range1 rfl T.b_range (pa_cons (pe_op op_add pe_int (pe_cal C__law_draw hr (pa_cons (pv 0) (pa_cons pe_int pa_nil)))) pa_nil)) (pg_name (i := 7) sc__law_program.nd rfl (by first | exact Or.inl rfl | exact Or.inr rfl)) (pss_cons (ps_setLc (i := 8) (own := [("j", 9)]) (g := (gName 9)) (tt := tYes) rfl sc__law_program.nd rfl rfl (sw_true rfl rfl rfl (by decide +kernel)) (pi_range1 rfl T.b_range (pa_cons (pe_cal C__law_draw hr (pa_cons (pv 0) (pa_cons pe_int pa_nil))) pa_nil)) (blkOk_by (own := [("j", 9)]) (N := ["draws", "size", "deep", "names", "step", "way", "heads", "k", "params", "j", "alone", "program", "head", "first", "place", "body"]) (sc := defScope s__law_program) (by decide +kernel)) (fun _ _ _ _ _ => (pg_name (i := 9) sc__law_program.nd rfl (by first | exact Or.inl rfl | exact Or.inr rfl))) (fun _ _ _ _ _ => pts_nil) (fun _ _ _ _ _ => (pe_ix (ix_seqK (K := K) rfl) (pe_lstK (pa_cons pe_str (pa_cons pe_str pa_nil))) (pe_cal C__law_draw hr (pa_cons (pv 0) (pa_cons pe_int pa_nil))) (fun _ _ => rfl)))) (pss_one (ps_expr (pe_bm PySem.F.plainAttrs_list PySem.F.slot_list_append PySem.F.type_list_append mt_append (pv 6) (pa_cons (pe_tupK (pa_cons (pe_ix (ix_seqK (K := K) rfl) (pv 3) (pv 7) (fun _ _ => rfl)) (pa_cons (pv 8) (pa_cons (pe_ix (ix_seqK (K := K) rfl) (pe_lstK (pa_cons pe_str (pa_cons pe_str pa_nil))) (pe_cal C__law_draw hr (pa_cons (pv 0) (pa_cons pe_int pa_nil))) (fun _ _ => rfl)) pa_nil)))) pa_nil)))))) (pss_cons (ps_set (i := 10) sc__law_program.nd rfl (by first | exact Or.inl rfl | exact Or.inr rfl) (pe_cal C__law_draw hr (pa_cons (pv 0) (pa_cons pe_int pa_nil)))) (pss_cons (ps_set (i := 11) sc__law_program.nd rfl (by first | exact Or.inl rfl | exact Or.inr rfl) (pe_lstK pa_nil)) (pss_cons (ps_for PassesOwn.never rfl (pi_enumB false (by rfl) T.b_enumerate (pa_cons (pv 6) pa_nil)) (pg_tup rfl (pgs_cons (pg_name (i := 7) sc__law_program.nd rfl (by first | exact Or.inl rfl | exact Or.inr rfl)) (pgs_cons (pg_name (i := 12) sc__law_program.nd rfl (by first | exact Or.inl rfl | exact Or.inr rfl)) pgs_nil))) (pss_cons (ps_set (i := 13) sc__law_program.nd rfl (by first | exact Or.inl rfl | exact Or.inr rfl) (pe_cal C__law_draw hr (pa_cons (pv 0) (pa_cons pe_int pa_nil)))) (pss_cons (ps_setLc (i := 8) (own := [("j", 9)]) (g := (gName 9)) (tt := tYes) rfl sc__law_program.nd rfl rfl (sw_true rfl rfl rfl (by decide +kernel)) (pi_range1 rfl T.b_range (pa_cons (pe_callB (call_lenKK (K := K) rfl) (by rfl) T.b_len PySem.boot_len (pa_cons (pe_ix (ix_seqK (K := K) rfl) (pv 12) pe_int (fun _ _ => rfl)) pa_nil)) pa_nil)) (blkOk_by (own := [("j", 9)]) (N := ["draws", "size", "deep", "names", "step", "way", "heads", "k", "params", "j", "alone", "program", "head", "first", "place", "body"]) (sc := defScope s__law_program) (by decide +kernel)) (fun _ _ _ _ _ => (pg_name (i := 9) sc__law_program.nd rfl (by first | exact Or.inl rfl | exact Or.inr rfl))) (fun _ _ _ _ _ => pts_nil) (fun _ _ _ _ _ => (pe_ix (ix_seqK (K := K) rfl) (pv 3) (pe_op op_mod (pe_op op_add (pv 13) (pv 9)) pe_int) (fun _ _ => rfl)))) (C8.pss_cut (ps_asg (pe_ifExp (pt_cmpR op_gt (pv 10) pe_int (nomark _)) (pe_slice sl_listK (pv 6) po_none (po_some (pv 7))) (pv 6)) (pg_sub (pv 5) pe_int set_list)) (pss_cons (ps_asg (pe_op op_fdiv (pv 1) (pe_callB (call_lenKK (K := K) rfl) (by rfl) T.b_len PySem.boot_len (pa_cons (pv 6) pa_nil))) (pg_sub (pv 5) pe_int set_list)) (pss_cons (ps_set (i := 14) sc__law_program.nd rfl (by first | exact Or.inl rfl | exact Or.inr rfl) (pe_cal C__law_place hr (pa_cons (pv 5) pa_nil))) (C8.pss_cut (ps_if (PW.pt (pw_and (pt_cmpR (op_eqXK (K := K) hr rfl) (pe_slice sl_listK (pe_ix (ix_seqK (K := K) rfl) (pv 12) pe_int (fun _ _ => rfl)) (po_some (pe_un un_neg pe_int)) po_none) (pe_lstK (pa_cons pe_str pa_nil)) (nomark _)) (pw_and (pt_cmpR (op_notIn_seqK (K := K) rfl) (pe_ix (ix_seqK (K := K) rfl) (pv 12) pe_int (fun _ _ => rfl)) (pv 8) rfl) (pw_and1 (pt_cmpR (op_eqXK (K := K) hr rfl) (pe_cal C__law_draw hr (pa_cons (pv 0) (pa_cons pe_int pa_nil))) pe_int (nomark _)))))) (pss_one (ps_set (i := 15) sc__law_program.nd rfl (by first | exact Or.inl rfl | exact Or.inr rfl) (pe_cal C__law_loop hr (pa_cons (pv 0) (pa_cons (pv 5) (pa_cons (pv 12) (pa_cons (pv 8) pa_nil))))))) (pss_one (ps_set (i := 15) sc__law_program.nd rfl (by first | exact Or.inl rfl | exact Or.inr rfl) (pe_cal C__law_tree hr (pa_cons (pv 0) (pa_cons (pv 5) (pa_cons (pe_ix (ix_seqK (K := K) rfl) (pv 12) pe_int (fun _ _ => rfl)) (pa_cons (pe_listZip false false rfl (by rfl) T.b_list (by rfl) T.b_zip (pa_cons (pv 8) (pa_cons (pe_ix (ix_seqK (K := K) rfl) (pv 12) pe_int (fun _ _ => rfl)) pa_nil))) (pa_cons (pv 2) pa_nil))))))))) (pss_one (ps_expr (pe_bm PySem.F.plainAttrs_list PySem.F.slot_list_append PySem.F.type_list_append mt_append (pv 11) (pa_cons (pe_tupK (pa_cons pe_str (pa_cons (pv 14) (pa_cons (pe_ix (ix_seqK (K := K) rfl) (pv 12) pe_int (fun _ _ => rfl)) (pa_cons (pe_callTy (call_tupleKK (K := K) rfl) (by rfl) T.b_tuple (by decide +kernel) (pa_cons (pv 8) pa_nil)) (pa_cons (pv 15) pa_nil)))))) pa_nil))))))))))) (pss_one (ps_ret (pe_tupK (pa_cons (pe_callTy (call_tupleKK (K := K) rfl) (by rfl) T.b_tuple (by decide +kernel) (pa_cons (pv 11) pa_nil)) (pa_cons (pv 6) pa_nil))))))))))))), ?_⟩
  have dl' : ∀ {H : Hp} {p : Addr}, DrAt H dl → H p = none → dl ≠ p := fun ⟨_, _, g, _⟩ n => ne_of_none g n
  walk_at "rr"
  refine ⟨dl, rfl, dr, fun nl names H1 k1 n1 dr1 e1 h8 nok nnd => ?_⟩
  have dn := dl' dr n1
  walk_at "rr"
  refine ⟨by simp, fun p2 H2 k2 n2 e2 => ?_⟩
  walk_at "rr"
  refine ⟨dl, 6, rfl, dr1.mono k2 ni0, by decide, by decide, fun m3 H3 hm3 k3 dr3 => ?_⟩
  have dp2 := dl' dr1 n2
  obtain ⟨st, hst⟩ : ∃ st : Int, ([V.int 1, V.int 7, V.int 61, V.int 13, V.int 1, V.int 0] : List V)[m3]? = some (.int st) := by
    match m3, hm3 with
    | 0, _ => exact ⟨_, rfl⟩
    | 1, _ => exact ⟨_, rfl⟩
    | 2, _ => exact ⟨_, rfl⟩
    | 3, _ => exact ⟨_, rfl⟩
    | 4, _ => exact ⟨_, rfl⟩
    | 5, _ => exact ⟨_, rfl⟩
  refine r_ixL (k3.at e2 (ni1 (Ne.symm dp2))) m3 hst ?_
  have k03 : Kp [dl] H H3 := k1.trans ((k2.mono (by simp)).trans k3)
  have en3 := k3.at (k2.at e1 ni0) (ni1 (Ne.symm dn))
  clear hst hm3 e2 k3 k2 k1 dr1 e1
  walk_at "rr"
  refine ⟨dl, 300, rfl, dr3, by decide, by decide, fun a4 H4 ha4 k4 dr4 => ?_⟩
  walk_at "rr"
  refine ⟨by simp, fun p5 H5 k5 n5 e5 => ?_⟩
  walk_at "rr"
  refine ⟨by simp, fun p6 H6 k6 n6 e6 => ?_⟩
  walk_at "rr"
  refine ⟨dl, 3, rfl, (dr4.mono k5 ni0).mono k6 ni0, by decide, by decide, fun m7 H7 hm7 k7 dr7 => ?_⟩
  have dp5 := dl' dr4 n5
  have dp6 := dl' (dr4.mono k5 ni0) n6
  obtain ⟨wr, hwr, hxw⟩ : ∃ wr : Nat, wr ≤ 1000 ∧ ([V.int 9, V.int 40, V.int 0] : List V)[m7]? = some (.int (wr : Int)) := by
    match m7, hm7 with
    | 0, _ => exact ⟨9, by decide, rfl⟩
    | 1, _ => exact ⟨40, by decide, rfl⟩
    | 2, _ => exact ⟨0, by decide, rfl⟩
  refine r_ixL (k7.at e6 (ni1 (Ne.symm dp6))) m7 hxw ?_
  have k07 : Kp [dl] H H7 := k03.trans (k4.trans ((k5.mono (by simp)).trans ((k6.mono (by simp)).trans k7)))
  have en7 := k7.at (k6.at (k5.at (k4.at en3 (ni1 (Ne.symm dn))) ni0) ni0) (ni1 (Ne.symm dn))
  clear hxw hm7 e6 k6 k5 k4 dr3 dr4 k03 en3 k7 e5
  refine ⟨by simp, fun wl H8 k8 n8 e8 => ?_⟩
  have dwl := dl' dr7 n8
  have nwl : nl ≠ wl := ne_of_none en7 n8
  have nn : nl ∉ [dl, wl] := ni2 (Ne.symm dn) nwl
  have w8 : WyAt H8 wl 0 nl p5 := ⟨_, _, wr, e8, hwr⟩
  walk_at "rr"
  refine ⟨by simp, fun hl H9 k9 n9 e9 => ?_⟩
  have dhl := dl' (dr7.mono k8 ni0) n9
  have whl : wl ≠ hl := ne_of_none e8 n9
  have nhl : nl ≠ hl := ne_of_none (k8.at en7 ni0) n9
  have hnn : hl ∉ [dl, wl] := ni2 (Ne.symm dhl) (Ne.symm whl)
  have dr9 := (dr7.mono k8 ni0).mono k9 ni0
  have k09 : Kp [dl] H H9 := k07.trans ((k8.mono (by simp)).trans (k9.mono (by simp)))
  have en9 := k9.at (k8.at en7 ni0) ni0
  have w9 := w8.mono k9 ni0
  have hlN : H hl = none := (k07.trans (k8.mono (by simp))).free n9
  have wlN : H wl = none := k07.free n8
  walk_at "rr"
  refine ⟨dl, 4, rfl, dr9, by decide, by decide, fun m10 H10 hm10 k10 dr10 => ?_⟩
  have en10 := k10.at en9 (ni1 (Ne.symm dn))
  have w10 := w9.mono k10 (ni1 (Ne.symm dwl))
  have e10 := k10.at e9 (ni1 (Ne.symm dhl))
  have k010 := k09.trans k10
  clear k09 k10 dr9 w9 e9 en9 w8 e8 en7 k07 dr7 k8 k9 n9 n8 n1 dr
  walk_at "rr"
  refine ⟨_, rfl, by omega, by omega, ?_⟩
  have e1m : ((1 : Int) + (m10 : Int)).toNat = m10 + 1 := by omega
  rw [e1m]
  refine forW (walk_rng (n := m10 + 1)) (fun i σ H' => ∃ o7 o8, σ = [some (.ref dl), some (.int 20), some (.int 4), some (.ref nl), some (.int st), some (.ref wl), some (.ref hl), o7, o8, none, none, none, none, none, none, none] ∧ Kp [dl, hl] H10 H' ∧ DrAt H' dl ∧ ∃ hs, HsAt H' dl wl hl names hs ∧ hs.length = i)
    ⟨none, none, rfl, Kp.refl _ _, dr10, [], ⟨⟨[], e10, rfl, by simp⟩, by simp, by simp⟩, rfl⟩ (fun _ _ _ _ _ => trivial) ?_ ?_
  · rintro i z σ H11 H12 hi ⟨o7, o8, rfl, k11, dr11, hs, S11, hsl⟩ ⟨rfl, rfl⟩
    walk_at "rr"
    refine ⟨dl, 4, rfl, dr11, by decide, by decide, fun m12 H13 hm12 k12 dr12 => ?_⟩
    refine ⟨_, rfl, by omega, by omega, ?_⟩
    rw [Int.toNat_natCast]
    have S12 := S11.mono k12 (by simp) hnn
    refine lcW (walk_rng (n := m12)) (by omega) [dl] (fun j acc H' => DrAt H' dl ∧ ∃ ys : List Str, acc = ys.map V.str ∧ ys.length = j ∧ ∀ y ∈ ys, isK y) (fun _ _ => trivial) (fun D0 H3 _ k3 => ⟨dr12.mono k3 ni0, [], rfl, rfl, by simp⟩) ?_ ?_
    · rintro j z D0 acc H14 H15 hj hD hl14 k14 hdd ⟨dr14, ys, rfl, hyl, hys⟩ ⟨rfl, rfl⟩
      have dD := dl' dr12 hD
      walk_at "rr"
      refine ⟨rfl, ?_⟩
      walk_at "rr"
      refine r_yes rfl ?_
      walk_at "rr"
      refine ⟨by simp, fun p15 H16 k15 n15 e15 => ?_⟩
      have dp15 := dl' dr14 n15
      walk_at "rr"
      refine ⟨dl, 2, rfl, dr14.mono k15 ni0, by decide, by decide, fun c H17 hc k17 dr17 => ?_⟩
      obtain ⟨s, hs1, hs2⟩ := nl_at hc
      refine r_ixL (k17.at e15 (ni1 (Ne.symm dp15))) c hs2 ?_
      refine lc_fin hD (by omega) hl14 (k14.trans ((k15.mono (by simp)).trans k17)) (k17.at (k15.at hdd ni0) (ni1 (Ne.symm dD))) fun H6 k6 => ⟨dr17.mono k6 (ni1 dD), ys ++ [s], by rw [List.map_append]; rfl, by simp [hyl], fun y hy => ?_⟩
      rcases List.mem_append.mp hy with hy | hy
      · exact hys y hy
      · rw [List.mem_singleton.mp hy]
        exact hs1
    · rintro D0 acc H14 hD _ k14 hdd ⟨dr14, ys, rfl, hyl, hys⟩
      have dD := dl' dr12 hD
      have S14 := S12.mono k14 (by simp) hnn
      obtain ⟨vs, hvs, hvl, hvd⟩ := S14.at_
      obtain ⟨vs11, hvs11, _, _⟩ := S11.at_
      have wD : wl ≠ D0 := by
        obtain ⟨_, _, _, g, _⟩ := w10
        exact ne_of_none (k12.at (k11.at g (ni2 (Ne.symm dwl) whl)) (ni1 (Ne.symm dwl))) hD
      have hD' : hl ≠ D0 := ne_of_none (k12.at hvs11 (ni1 (Ne.symm dhl))) hD
      have en14 := k14.at (k12.at (k11.at en10 (ni2 (Ne.symm dn) nhl)) (ni1 (Ne.symm dn))) (ni1 (Ne.symm dn))
      walk_at "rr"
      refine ⟨tyV_l hvs, ?_⟩
      walk_at "rr"
      refine r_ixL en14 i (y := .str (names[i]'(by omega))) (by rw [List.getElem?_map, List.getElem?_eq_getElem (by omega)]; rfl) ?_
      walk_at "rr"
      refine ⟨by simp, fun p15 H15 k15 n15 e15 => ?_⟩
      have dp15 := dl' dr14 n15
      walk_at "rr"
      refine ⟨dl, 2, rfl, dr14.mono k15 ni0, by decide, by decide, fun c H17 hc k17 dr17 => ?_⟩
      obtain ⟨s, hs1, hs2⟩ := nl_at hc
      refine r_ixL (k17.at e15 (ni1 (Ne.symm dp15))) c hs2 ?_
      refine ⟨by simp, fun p18 H18 k18 n18 e18 => ?_⟩
      have k1418 : Kp [dl, wl] H14 H18 := (k15.mono (by simp)).trans ((k17.mono (by simp)).trans (k18.mono (by simp)))
      have kdl : Kp [dl] H14 H18 := (k15.mono (by simp)).trans (k17.trans (k18.mono (by simp)))
      have S18 := S14.mono k1418 (fun _ z => z) hnn
      obtain ⟨vs18, hvs18, hvl18, hvd18⟩ := S18.at_
      have hdd18 := kdl.at hdd (ni1 (Ne.symm dD))
      have hD0 : HdQ H18 [dl, wl, hl] (.ref p18) (names[i]'(by omega), ys, s) := ⟨p18, D0, rfl, e18, hdd18, ni3 (Ne.symm dD) (Ne.symm wD) (Ne.symm hD')⟩
      walk_at "rr"
      refine r_append hvs18 (by omega) ?_
      have kw : Kp [hl] H18 (upd H18 hl (.lst (vs18 ++ [.ref p18]))) := Kp.wr (by simp) hvs18 rfl
      have ew : (upd H18 hl (.lst (vs18 ++ [.ref p18]))) hl = some (.lst (vs18 ++ [.ref p18])) := upd_same
      generalize upd H18 hl (.lst (vs18 ++ [.ref p18])) = H19 at kw ew
      walk_at "rr"
      refine ⟨_, _, rfl, k11.trans ((k12.mono (by simp)).trans ((k14.mono (by simp)).trans ((kdl.mono (by simp)).trans (kw.mono (by simp))))), (dr17.mono k18 ni0).mono kw (ni1 dhl), hs ++ [(names[i]'(by omega), ys, s)], ⟨⟨_, ew, by simp [hvl18], fun j v h hv hh => ?_⟩, fun j h hh => ?_, fun h hh => ?_⟩, by simp [hsl]⟩
      · rcases get_snoc hh with hh | ⟨e, rfl⟩
        · rcases get_snoc hv with hv | ⟨e, _⟩
          · exact (hvd18 j v h hv hh).mono kw (by simp)
          · rw [e, hvl18, List.getElem?_eq_none (Nat.le_refl _)] at hh
            cases hh
        · rcases get_snoc hv with hv | ⟨_, rfl⟩
          · rw [e, ← hvl18, List.getElem?_eq_none (Nat.le_refl _)] at hv
            cases hv
          · exact hD0.mono kw (by simp)
      · rcases get_snoc hh with hh | ⟨e, rfl⟩
        · exact S18.nm j h hh
        · rw [e, hsl]
          exact List.getElem?_eq_getElem (by omega)
      · rcases List.mem_append.mp hh with hh | hh
        · exact S18.few h hh
        · rw [List.mem_singleton.mp hh]
          exact ⟨by show ys.length ≤ 3; omega, hys, hs1⟩
  · rintro σ H11 ⟨o7, o8, rfl, k11, dr11, hs, S11, hsl⟩
    have few4 : hs.length ≤ 4 := by omega
    have hnd := S11.nd nnd
    walk_at "rr"
    refine ⟨dl, 3, rfl, dr11, by decide, by decide, fun al H12 hal k12 dr12 => ?_⟩
    have S12 := S11.mono k12 (by simp) hnn
    have en12 := k12.at (k11.at en10 (ni2 (Ne.symm dn) nhl)) (ni1 (Ne.symm dn))
    have w12 := (w10.mono k11 (ni2 (Ne.symm dwl) whl)).mono k12 (ni1 (Ne.symm dwl))
    have k012 : Kp [dl] H H12 := (((k010.mono (M1 := [dl, hl]) (by simp)).trans k11).drop fun b hb => by simp at hb; rcases hb with hb | hb <;> simp [hb, hlN]).trans k12
    walk_at "rr"
    refine ⟨by simp, fun pg H13 k13 n13 e13 => ?_⟩
    have dpg := dl' dr12 n13
    have wpg : wl ≠ pg := by
      obtain ⟨_, _, _, g, _⟩ := w12
      exact ne_of_none g n13
    have npg : nl ≠ pg := ne_of_none en12 n13
    have S13 := S12.mono k13 (by simp) hnn
    have dr13 := dr12.mono k13 ni0
    have w13 := w12.mono k13 ni0
    have en13 := k13.at en12 ni0
    have k013 : Kp [dl] H H13 := k012.trans (k13.mono (by simp))
    have pgN : H pg = none := k012.free n13
    obtain ⟨vs, hvs12, hvl, hvd12⟩ := S12.at_
    have hvs := k13.at hvs12 ni0
    have hvd : ∀ (j : Nat) v h, vs[j]? = some v → hs[j]? = some h → HdQ H13 [dl, wl, pg] v h := fun j v h a b => by
      obtain ⟨pp, qq, h1, h2, h3, h4⟩ := hvd12 j v h a b
      exact ⟨pp, qq, h1, k13.atT h2, k13.at h3 ni0, ni3 (fun e => h4 (by simp [e])) (fun e => h4 (by simp [e])) (ne_of_none h3 n13)⟩
    clear hvs12 hvd12
    have hpg : hl ≠ pg := by
      obtain ⟨_, g, _⟩ := S12.at_
      exact ne_of_none g n13
    clear S12 S11 w12 dr12 en12 k13 n13 k12 k11 dr11 k012
    walk_at "rr"
    refine ⟨hl, vs, rfl, sqBl hvs, ?_⟩
    have hlM : hl ∉ [dl, wl, pg] := ni3 (Ne.symm dhl) (Ne.symm whl) hpg
    have nlM : nl ∉ [dl, wl, pg] := ni3 (Ne.symm dn) nwl npg
    refine forW (walk_enumB (b := false) (xs := vs)) (fun i σ H' => ∃ o7 o8 o12 o13 o14 o15, σ = [some (.ref dl), some (.int 20), some (.int 4), some (.ref nl), some (.int st), some (.ref wl), some (.ref hl), o7, o8, none, some (.int (al : Int)), some (.ref pg), o12, o13, o14, o15] ∧ Kp [dl, wl, pg] H13 H' ∧ DrAt H' dl ∧ (∃ f h', WyAt H' wl f nl h') ∧
      ∃ ys p, H' pg = some (.lst ys) ∧ TDs H' ys (p.map df) ∧ p.length = i ∧ ∀ (j : Nat) h d, hs[j]? = some h → p[j]? = some d → DfOf hs hs.length h d)
      ⟨_, _, none, none, none, none, rfl, Kp.refl _ _, dr13, ⟨_, _, w13⟩, [], [], e13, .nil, rfl, by simp⟩ ?_ ?_ ?_
    · rintro i σ H' _ ⟨_, _, _, _, _, _, _, k, _⟩
      exact sqBl (k.at hvs hlM)
    · rintro i x σ H14 H15 hi ⟨o7, o8, o12, o13, o14, o15, rfl, k14, dr14, ⟨fw, hw', w14⟩, ys, p, e14, t14, pl14, hp14⟩ y
      obtain ⟨Tp, ia, xb, rfl, nT, kT, eT, hia, hxb⟩ := YPair.use y
      obtain ⟨rfl⟩ : V.int (i : Nat) = ia := Option.some.inj hia
      have hih : i < hs.length := by omega
      have hx13 := hvd i xb hs[i] hxb (List.getElem?_eq_getElem hih)
      have hgi : hs[i]? = some hs[i] := List.getElem?_eq_getElem hih
      generalize hs[i] = hd at hx13 hgi
      obtain ⟨f1, f2, f3⟩ := S13.few hd (List.mem_of_getElem? hgi)
      have hnm := S13.nm i hd hgi
      have k15 := k14.trans (kT.mono (M1 := [dl, wl, pg]) (by simp))
      have s2 : ∀ b ∈ [dl, wl, pg], b ∈ [dl, wl, pg] := fun _ z => z
      have hq15 : HdV H15 dl wl xb hd := (hx13.mono k15 s2).hdV
      have w15 := w14.mono kT ni0
      have dr15 := dr14.mono kT ni0
      have e15 := kT.at e14 ni0
      have t15 := t14.mono kT
      obtain ⟨pp, qq, rfl, g2, g3, g4⟩ := id hq15
      refine r_gTup rfl eT rfl ?_
      walk_at "rr"
      refine ⟨dl, 8, rfl, dr15, by decide, by decide, fun n16 H16 hn16 k16 dr16 => ?_⟩
      walk_at "rr"
      refine .inr (.inl ⟨pp, _, 1, _, rfl, rfl, SqT.of (k16.atT g2), rfl, ?_⟩)
      have g3' := k16.at g3 (ni1 (fun e => g4 (by simp [e])))
      walk_at "rr"
      refine r_len_l g3' ?_
      rw [List.length_map]
      refine ⟨_, rfl, by omega, by omega, ?_⟩
      rw [Int.toNat_natCast]
      have k116 : Kp [dl, wl, pg] H13 H16 := k15.trans (k16.mono (by simp))
      have en16 := k116.at en13 nlM
      refine lcW (walk_rng (n := hd.2.1.length)) (by omega) [] (fun j acc _ => acc = (pk names n16 j).map V.str) (fun _ _ => trivial) (fun _ _ _ _ => rfl) ?_ ?_
      · rintro j z D0 acc H17 H18 hj hD hl17 k17 hdd rfl ⟨rfl, rfl⟩
        walk_at "rr"
        refine ⟨rfl, ?_⟩
        walk_at "rr"
        refine r_yes rfl ?_
        walk_at "rr"
        refine r_I (by decide) ?_
        have ec : ((n16 : Int) + (j : Int)) % 8 = (((n16 + j) % 8 : Nat) : Int) := by simp
        rw [ec]
        have hlt : (n16 + j) % 8 < names.length := by rw [h8]; exact Nat.mod_lt _ (by decide)
        refine r_ixL (k17.at en16 ni0) _ (y := .str (names.getD ((n16 + j) % 8) "")) (by rw [List.getElem?_map, List.getD_eq_getElem?_getD, List.getElem?_eq_getElem hlt]; rfl) ?_
        refine lc_fin hD (by omega) hl17 k17 hdd fun H6 k6 => ?_
        unfold pk
        rw [List.range_succ, List.map_append, List.map_append]
        rfl
      rintro D0 acc H17 hD0 _ k17 hdd rfl
      have psl := pk_len names n16 hd.2.1.length
      have psm := pk_mem h8 (n := n16) (m := hd.2.1.length)
      have psn := pk_nodup h8 nnd (n := n16) (m := hd.2.1.length) (by omega)
      generalize pk names n16 hd.2.1.length = ps at hdd psl psm psn
      have k117 := k116.trans (k17.mono (M1 := [dl, wl, pg]) (by simp))
      have w16 := w15.mono k16 (ni1 (Ne.symm dwl))
      have dD0 := dl' dr16 hD0
      have wD0 : wl ≠ D0 := by
        obtain ⟨_, _, _, g, _⟩ := w16
        exact ne_of_none g hD0
      have pD0 : pg ≠ D0 := ne_of_none (k16.at e15 (ni1 (Ne.symm dpg))) hD0
      have D0M : D0 ∉ [dl, wl] := ni2 (Ne.symm dD0) (Ne.symm wD0)
      have w17 := w16.mono k17 ni0
      have en17 := k17.at en16 ni0
      have hvs17 := k117.at hvs hlM
      have hv17 : ∀ (j : Nat) v h, vs[j]? = some v → hs[j]? = some h → HdV H17 dl wl v h := fun j v h a b => ((hvd j v h a b).mono k117 s2).hdV
      walk_at "rr"
      refine r_cut (fun σ H' => ∃ hl' hs', σ = [some (.ref dl), some (.int 20), some (.int 4), some (.ref nl), some (.int st), some (.ref wl), some (.ref hl), some (.int (i : Int)), some (.ref D0), none, some (.int (al : Int)), some (.ref pg), some (.ref pp), some (.int (n16 : Int)), o14, o15] ∧ Kp [wl] H17 H' ∧ Ev H' dl wl nl hl' names hs' (arH hs) ∧ WyAt H' wl fw nl hl') ?_ ?_
      · obtain ⟨a17, s17, wr17, g17, hwr17⟩ := id w17
        walk_at "rr"
        by_cases hal0 : 0 < al
        · refine r_yes (decide_eq_true (by omega)) ?_
          walk_at "rr"
          refine ⟨hl, vs, rfl, SqL.of hvs17, fun p18 H18 k18 n18 e18 => ?_⟩
          rw [cutV_take vs i (by omega)] at e18
          walk_at "rr"
          refine r_setL (n := 4) (k18.at g17 ni0) (by simp) fun H19 k19 e19 => ?_
          walk_at "rr"
          have wp : wl ≠ p18 := ne_of_none g17 n18
          have dp : dl ≠ p18 := dl' (dr16.mono k17 ni0) n18
          have k1719 : Kp [wl] H17 H19 := (k18.mono (by simp)).trans k19
          refine ⟨p18, hs.take i, rfl, k1719, Ev.of (k1719.at en17 (ni1 nwl)) h8 nok nnd nn (ni2 (Ne.symm dp) (Ne.symm wp)) few4 S13.nm S13.few hnd (k19.at e18 (ni1 (Ne.symm wp))) (by rw [List.length_take, List.length_take, hvl]) (fun j v h hv hh => ?_) (fun h hh => List.mem_of_mem_take hh) (by rw [List.length_take]; omega), ⟨a17, s17, wr17, e19, hwr17⟩⟩
          rw [List.getElem?_take] at hv hh
          split at hv
          · rw [if_pos (by assumption)] at hh
            exact (hv17 j v h hv hh).mono (k1719.mono (by simp))
          · cases hv
        · refine r_no (decide_eq_false (by omega)) ?_
          walk_at "rr"
          refine r_setL (n := 4) g17 (by simp) fun H19 k19 e19 => ?_
          walk_at "rr"
          refine ⟨hl, hs, rfl, k19, Ev.of (k19.at en17 (ni1 nwl)) h8 nok nnd nn hnn few4 S13.nm S13.few hnd (k19.at hvs17 (ni1 (Ne.symm whl))) hvl (fun j v h hv hh => (hv17 j v h hv hh).mono (k19.mono (by simp))) (fun h hh => hh) (Nat.le_refl _), ⟨a17, s17, wr17, e19, hwr17⟩⟩
      rintro σ H19 ⟨hl', hs', rfl, k19, E19, w19⟩
      have k119 : Kp [dl, wl, pg] H13 H19 := k117.trans (k19.mono (by simp))
      have dr19 := (dr16.mono k17 ni0).mono k19 (ni1 dwl)
      have ed19 := k19.at hdd (ni1 (Ne.symm wD0))
      have k1419 : Kp [dl, wl] H14 H19 := (kT.mono (by simp)).trans ((k16.mono (by simp)).trans ((k17.mono (by simp)).trans (k19.mono (by simp))))
      clear k19 k117 k17 k116 k16 kT w17 w16 en17 en16 hvs17 hv17 dr16 hdd g3' k15 e15 t15 g2 g3 dr15 w15
      walk_at "rr"
      refine r_len_l (k119.at hvs hlM) ?_
      rw [hvl]
      refine r_I ⟨by omega, by omega⟩ ?_
      have ef : (20 : Int) / (hs.length : Int) = ((20 / hs.length : Nat) : Int) := by simp
      rw [ef]
      obtain ⟨a19, s19, wr19, g19, hwr19⟩ := id w19
      walk_at "rr"
      refine r_setL (n := 2) g19 (by simp) fun H20 k20 e20 => ?_
      have w20 : WyAt H20 wl ((20 / hs.length : Nat) : Int) nl hl' := ⟨a19, s19, wr19, e20, hwr19⟩
      walk_at "rr"
      refine ⟨wl, nl, hl', _, rfl, w20, fun p20 plv H21 k21 w21 okp tp => ?_⟩
      have k1921 : Kp [wl] H19 H21 := k20.trans k21
      have E21 := E19.mono (k1921.mono (by simp))
      have k121 : Kp [dl, wl, pg] H13 H21 := k119.trans (k1921.mono (by simp))
      have k1421 : Kp [dl, wl] H14 H21 := k1419.trans (k1921.mono (by simp))
      have D21 : Dw H21 dl wl ((20 / hs.length : Nat) : Int) nl hl' := ⟨dr19.mono k1921 (ni1 dwl), w21⟩
      have hd21 : HdV H21 dl wl (.ref pp) hd := (hx13.mono k121 s2).hdV
      have ed21 := k1921.at ed19 (ni1 (Ne.symm wD0))
      obtain ⟨pp', qq, epp, g21, q21, g4⟩ := id hd21
      cases epp
      have f20 : 5 ≤ 20 / hs.length := by
        have h1 : 1 ≤ hs.length := by omega
        match hs.length, h1, few4 with
        | 1, _, _ => decide
        | 2, _, _ => decide
        | 3, _, _ => decide
        | 4, _, _ => decide
      clear k20 k21 k1921 k119 k1419 g19 e20 w20 E19 w19 dr19 ed19
      walk_at "rr"
      refine r_cut (fun σ H' => ∃ bv t f', σ = [some (.ref dl), some (.int 20), some (.int 4), some (.ref nl), some (.int st), some (.ref wl), some (.ref hl), some (.int (i : Int)), some (.ref D0), none, some (.int (al : Int)), some (.ref pg), some (.ref pp), some (.int (n16 : Int)), some plv, some bv] ∧ Kp [dl, wl] H21 H' ∧ Dw H' dl wl f' nl hl' ∧ TD H' bv (tr t) ∧ Gd (arH hs) ps 6 t ∧ (sz t ≤ 20 / hs.length + 6 ∨ sz t ≤ 9)) ?_ ?_
      · walk_at "rr"
        refine .inr (.inl ⟨pp, _, 1, _, rfl, rfl, SqT.of g21, rfl, ?_⟩)
        walk_at "rr"
        refine ⟨1, rfl, ?_⟩
        walk_at "rr"
        refine ⟨qq, _, rfl, SqL.of q21, fun p22 H22 k22 n22 e22 => ?_⟩
        rw [cutV_last2, List.length_map, ← List.map_drop] at e22
        walk_at "rr"
        refine ⟨by simp, fun p23 H23 k23 n23 e23 => ?_⟩
        refine r_eq_strs (ms := [("l" : Str)]) (k23.at e22 ni0) e23 (fun x hx => (f2 x (List.mem_of_mem_drop hx)).ok) (by decide +kernel) ?_
        have k2123 := k22.trans k23
        walk_at "rr"
        by_cases hc1 : hd.2.1.drop (hd.2.1.length - 1) = [("l" : Str)]
        · have hpos : 1 ≤ hd.2.1.length := by
            cases hh : hd.2.1 with
            | nil => rw [hh] at hc1; cases hc1
            | cons _ _ => simp
          refine r_yes (decide_eq_true hc1) ?_
          walk_at "rr"
          refine .inr (.inl ⟨pp, _, 0, _, rfl, rfl, SqT.of (k2123.atT g21), rfl, ?_⟩)
          walk_at "rr"
          refine r_nin_l (k2123.at ed21 ni0) ?_
          walk_at "rr"
          by_cases hc2 : hd.1 ∈ ps
          · refine r_no (by simp [hc2]) ?_
            refine r_no rfl ?_
            walk_at "rr"
            have kx : Kp [dl] H21 _ := k2123.mono (by simp)
            have drx := D21.dr.mono k2123 ni0
            have Ex := E21.mono (kx.mono (by simp))
            have Dx := D21.drawn kx drx
            refine .inr (.inl ⟨pp, _, 2, _, rfl, rfl, SqT.of (kx.atT g21), rfl, ?_⟩)
            walk_at "rr"
            refine .inr (.inl ⟨pp, _, 1, _, rfl, rfl, SqT.of (kx.atT g21), rfl, ?_⟩)
            refine ⟨D0, qq, _, _, rfl, sqBl (kx.at ed21 (ni1 (Ne.symm dD0))), sqBl (kx.at q21 (ni1 (fun e => g4 (by simp [e])))), by simp [psl], fun pz ts Hz kz nz ez pr => ?_⟩
            have nz' := Dx.new nz
            walk_at "rr"
            refine ⟨dl, wl, nl, hl', pz, _, hd.2.2, names, hs', arH hs, ps.zip hd.2.1, rfl, ⟨Dx.mono kz ni0 ni0, Ex.mono (kz.mono (by simp)), ⟨_, ez, zip_td pr⟩, ni2 (Ne.symm nz'.1) (Ne.symm nz'.2), by rw [List.length_zip]; omega, fun z hz => nok _ (psm _ (List.of_mem_zip hz).1)⟩, by decide, fun bv Hb t f' kb Db tb gb zb fb => ?_⟩
            rw [List.map_fst_zip (by omega)] at gb
            walk_at "rr"
            exact ⟨bv, t, f', rfl, (kx.mono (by simp)).trans ((kz.mono (by simp)).trans kb), Db, tb, ⟨gb.ok, gb.dep.up (by omega), gb.snd⟩, .inl (by omega)⟩
          · refine r_yes (by simp [hc2]) ?_
            walk_at "rr"
            refine ⟨dl, 2, rfl, D21.dr.mono k2123 ni0, by decide, by decide, fun n24 H24 hn24 k24 dr24 => ?_⟩
            walk_at "rr"
            by_cases hc3 : n24 = 0
            · refine r_yes (by simp [hc3]) ?_
              walk_at "rr"
              have kx : Kp [dl] H21 H24 := (k2123.mono (by simp)).trans k24
              refine ⟨dl, wl, nl, hl', D0, _, .ref pp, hd, ps, names, hs', arH hs, rfl, D21.drawn kx dr24, E21.mono (kx.mono (by simp)), hd21.mono (kx.mono (by simp)), ⟨nok _ (List.mem_of_getElem? hnm), f1, arH_at hnd (List.mem_of_getElem? hgi), f3.ok, fun k hk => (f2 k hk).ok⟩, kx.at ed21 (ni1 (Ne.symm dD0)), D0M, psl, by omega, psm, hc2, fun bv Hb t kb Db tb gb zb => ?_⟩
              walk_at "rr"
              exact ⟨bv, t, _, rfl, (kx.mono (by simp)).trans kb, Db, tb, ⟨gb.ok, gb.dep.up (by omega), gb.snd⟩, .inr zb⟩
            · refine r_no (by simp [hc3]) ?_
              walk_at "rr"
              have kx : Kp [dl] H21 _ := (k2123.mono (by simp)).trans k24
              have drx := dr24
              have Ex := E21.mono (kx.mono (by simp))
              have Dx := D21.drawn kx drx
              refine .inr (.inl ⟨pp, _, 2, _, rfl, rfl, SqT.of (kx.atT g21), rfl, ?_⟩)
              walk_at "rr"
              refine .inr (.inl ⟨pp, _, 1, _, rfl, rfl, SqT.of (kx.atT g21), rfl, ?_⟩)
              refine ⟨D0, qq, _, _, rfl, sqBl (kx.at ed21 (ni1 (Ne.symm dD0))), sqBl (kx.at q21 (ni1 (fun e => g4 (by simp [e])))), by simp [psl], fun pz ts Hz kz nz ez pr => ?_⟩
              have nz' := Dx.new nz
              walk_at "rr"
              refine ⟨dl, wl, nl, hl', pz, _, hd.2.2, names, hs', arH hs, ps.zip hd.2.1, rfl, ⟨Dx.mono kz ni0 ni0, Ex.mono (kz.mono (by simp)), ⟨_, ez, zip_td pr⟩, ni2 (Ne.symm nz'.1) (Ne.symm nz'.2), by rw [List.length_zip]; omega, fun z hz => nok _ (psm _ (List.of_mem_zip hz).1)⟩, by decide, fun bv Hb t f' kb Db tb gb zb fb => ?_⟩
              rw [List.map_fst_zip (by omega)] at gb
              walk_at "rr"
              exact ⟨bv, t, f', rfl, (kx.mono (by simp)).trans ((kz.mono (by simp)).trans kb), Db, tb, ⟨gb.ok, gb.dep.up (by omega), gb.snd⟩, .inl (by omega)⟩
        · refine r_no (decide_eq_false hc1) ?_
          refine r_no rfl ?_
          walk_at "rr"
          have kx : Kp [dl] H21 _ := k2123.mono (by simp)
          have drx := D21.dr.mono k2123 ni0
          have Ex := E21.mono (kx.mono (by simp))
          have Dx := D21.drawn kx drx
          refine .inr (.inl ⟨pp, _, 2, _, rfl, rfl, SqT.of (kx.atT g21), rfl, ?_⟩)
          walk_at "rr"
          refine .inr (.inl ⟨pp, _, 1, _, rfl, rfl, SqT.of (kx.atT g21), rfl, ?_⟩)
          refine ⟨D0, qq, _, _, rfl, sqBl (kx.at ed21 (ni1 (Ne.symm dD0))), sqBl (kx.at q21 (ni1 (fun e => g4 (by simp [e])))), by simp [psl], fun pz ts Hz kz nz ez pr => ?_⟩
          have nz' := Dx.new nz
          walk_at "rr"
          refine ⟨dl, wl, nl, hl', pz, _, hd.2.2, names, hs', arH hs, ps.zip hd.2.1, rfl, ⟨Dx.mono kz ni0 ni0, Ex.mono (kz.mono (by simp)), ⟨_, ez, zip_td pr⟩, ni2 (Ne.symm nz'.1) (Ne.symm nz'.2), by rw [List.length_zip]; omega, fun z hz => nok _ (psm _ (List.of_mem_zip hz).1)⟩, by decide, fun bv Hb t f' kb Db tb gb zb fb => ?_⟩
          rw [List.map_fst_zip (by omega)] at gb
          walk_at "rr"
          exact ⟨bv, t, f', rfl, (kx.mono (by simp)).trans ((kz.mono (by simp)).trans kb), Db, tb, ⟨gb.ok, gb.dep.up (by omega), gb.snd⟩, .inl (by omega)⟩
      rintro σ H22 ⟨bv, t, f', rfl, k22, D22, tb, gb, zb⟩
      have k1422 := k1421.trans k22
      have pgM : pg ∉ [dl, wl] := ni2 (Ne.symm dpg) (Ne.symm wpg)
      have e22 := k1422.at e14 pgM
      walk_at "rr"
      refine ⟨tyV_l e22, ?_⟩
      walk_at "rr"
      refine .inr (.inl ⟨pp, _, 0, _, rfl, rfl, SqT.of (k22.atT g21), rfl, ?_⟩)
      walk_at "rr"
      refine r_tuple_l (ds := ps.map .str) (k22.at ed21 D0M) TDs.strs fun y H23 k23 t23 => ?_
      walk_at "rr"
      refine ⟨by simp, fun pd H24 k24 n24 e24 => ?_⟩
      have k2224 := k23.trans k24
      have hyl : ys.length = i := by rw [t14.1, List.length_map, pl14]
      walk_at "rr"
      refine r_append (k2224.at e22 ni0) (by omega) ?_
      have kw : Kp [pg] H24 (upd H24 pg (.lst (ys ++ [.ref pd]))) := Kp.wr (by simp) (k2224.at e22 ni0) rfl
      have ew : (upd H24 pg (.lst (ys ++ [.ref pd]))) pg = some (.lst (ys ++ [.ref pd])) := upd_same
      generalize upd H24 pg (.lst (ys ++ [.ref pd])) = H25 at kw ew
      walk_at "rr"
      have tdf : TD H25 (.ref pd) (df ⟨p20, hd.1, ps, t⟩) := TD.mk (kw.atT e24) (TDs.mono kw (.cons (.str _) (.cons ((tp.mono k22).mono k2224) (.cons (.str _) (.cons (t23.mono k24) (.cons (tb.mono k2224) .nil))))))
      refine ⟨_, _, _, _, _, _, rfl, k14.trans ((k1422.mono (by simp)).trans ((k2224.mono (by simp)).trans (kw.mono (by simp)))), (D22.dr.mono k2224 ni0).mono kw (ni1 dpg), ⟨_, _, (D22.wy.mono k2224 ni0).mono kw (ni1 wpg)⟩, _, p ++ [⟨p20, hd.1, ps, t⟩], ew, ?_, by simp [pl14], fun j h d hh hdj => ?_⟩
      · rw [List.map_append]
        exact (((t14.mono k1422).mono k2224).mono kw).snoc tdf
      · rcases get_snoc hdj with hdj | ⟨e, rfl⟩
        · exact hp14 j h d hh hdj
        · rw [e, pl14, hgi] at hh
          cases hh
          exact ⟨rfl, psl, ⟨okp, nok _ (List.mem_of_getElem? hnm), by show ps.length ≤ 4; omega, fun x hx => nok _ (psm x hx), gb.dep.up (by omega), gb.ok⟩, psn, gb.snd, zb⟩
    · rintro σ H14 ⟨o7, o8, o12, o13, o14, o15, rfl, k14, dr14, _, ys, p, e14, t14, pl14, hp14⟩
      walk_at "rr"
      refine r_tuple_l e14 t14 fun y H15 k15 t15 => ?_
      walk_at "rr"
      refine ⟨by simp, fun pz H16 k16 n16 e16 => ?_⟩
      rw [hvl] at pl14
      have kz : Kp [dl] H H14 := ((k013.mono (M1 := [dl, wl, pg]) (by simp)).trans k14).drop fun b hb => by simp at hb; rcases hb with hb | hb | hb <;> simp [hb, wlN, pgN]
      exact q pz y _ H16 p (kz.trans ((k15.trans k16).mono (by simp))) ((dr14.mono k15 ni0).mono k16 ni0) e16 (t15.mono k16) (PG.of pl14 (by omega) few4 hnd hp14)
end
end Tp
set_option Elab.async false
set_option linter.all false
set_option maxRecDepth 100000
set_option maxHeartbeats 4000000
namespace Tp
open PySem PySem.Spec PyProof.Rows L2

/-! ### the law's own solving, plainly -/
abbrev Pr := Kd × Kd
def Mk' (ps : List Pr) (s : Int → Kd) : Prop := ∀ q ∈ ps, ap s q.1 = ap s q.2
def Uni (ps : List Pr) : Prop := ∃ s, Mk' ps s
theorem Mk'.snoc {ps : List Pr} {a b : Kd} {s : Int → Kd} : Mk' (ps ++ [(a, b)]) s ↔ Mk' ps s ∧ ap s a = ap s b := by
  unfold Mk'
  simp only [List.mem_append, List.mem_singleton]
  constructor
  · exact fun h => ⟨fun q hq => h q (.inl hq), h (a, b) (.inr rfl)⟩
  · rintro ⟨h1, h2⟩ q (hq | rfl)
    · exact h1 q hq
    · exact h2
theorem uni_rows {rs : List Row} : Uni (rs.map (·.2)) ↔ Sat rs := by
  constructor
  · rintro ⟨s, h⟩
    exact ⟨s, fun r hr => h r.2 (List.mem_map_of_mem hr)⟩
  · rintro ⟨s, h⟩
    refine ⟨s, fun q hq => ?_⟩
    obtain ⟨r, hr, rfl⟩ := List.mem_map.mp hq
    exact h r hr
theorem uni_nil : Uni [] := ⟨fun _ => .num, fun q hq => by cases hq⟩
theorem uni_swap {ps : List Pr} {a b : Kd} : Uni (ps ++ [(a, b)]) ↔ Uni (ps ++ [(b, a)]) := by
  unfold Uni
  simp only [Mk'.snoc]
  constructor
  · rintro ⟨s, h1, h2⟩
    exact ⟨s, h1, h2.symm⟩
  · rintro ⟨s, h1, h2⟩
    exact ⟨s, h1, h2.symm⟩
theorem uni_same {ps : List Pr} {a : Kd} : Uni (ps ++ [(a, a)]) ↔ Uni ps := by
  unfold Uni
  simp only [Mk'.snoc, and_true]
theorem uni_lst {ps : List Pr} {a b : Kd} : Uni (ps ++ [(.lst a, .lst b)]) ↔ Uni (ps ++ [(a, b)]) := by
  unfold Uni
  simp only [Mk'.snoc, ap, Kd.lst.injEq]
theorem uni_num_lst {ps : List Pr} {a : Kd} : ¬ Uni (ps ++ [(.num, .lst a)]) := by
  unfold Uni
  simp [Mk'.snoc, ap]
theorem uni_lst_num {ps : List Pr} {a : Kd} : ¬ Uni (ps ++ [(.lst a, .num)]) := by
  unfold Uni
  simp [Mk'.snoc, ap]
theorem uni_occurs {ps : List Pr} {f : Int} {o : Kd} (h : kend o = some f) (ne : o ≠ .any f) : ¬ Uni (ps ++ [(.any f, o)]) := by
  rintro ⟨s, h1⟩
  have h2 := (Mk'.snoc.mp h1).2
  have := no_self (s := s) h ne
  rw [← h2] at this
  simp only [ap] at this
  omega
theorem ap_free {s : Int → Kd} {f : Int} {k : Kd} : ∀ {o : Kd}, kend o ≠ some f → ap (fun n => if n = f then k else s n) o = ap s o
  | .num, _ => rfl
  | .lst o, h => by
    have := ap_free (s := s) (f := f) (k := k) (o := o) h
    simp only [ap, this]
  | .any n, h => by
    have : n ≠ f := fun e => h (by simp [kend, e])
    simp [ap, this]
theorem uni_put {ps : List Pr} {f : Int} {o : Kd} (h : kend o ≠ some f) : Uni (ps ++ [(.any f, o)]) ↔ Uni (ps.map fun q => (rep f o q.1, rep f o q.2)) := by
  constructor
  · rintro ⟨s, h1⟩
    obtain ⟨h1, h2⟩ := Mk'.snoc.mp h1
    have e : ∀ a : Kd, ap s (rep f o a) = ap s a := fun a => by
      unfold rep
      rw [ap_ap]
      congr 1
      funext n
      by_cases hn : n = f
      · subst hn
        simpa [ap] using h2.symm
      · simp [hn, ap]
    refine ⟨s, fun q hq => ?_⟩
    obtain ⟨q', hq', rfl⟩ := List.mem_map.mp hq
    show ap s (rep f o q'.1) = ap s (rep f o q'.2)
    rw [e, e]
    exact h1 q' hq'
  · rintro ⟨s, h1⟩
    have e : ∀ a : Kd, ap (fun n => if n = f then ap s o else s n) a = ap s (rep f o a) := fun a => by
      unfold rep
      rw [ap_ap]
      congr 1
      funext n
      by_cases hn : n = f <;> simp [hn, ap]
    refine ⟨fun n => if n = f then ap s o else s n, Mk'.snoc.mpr ⟨fun q hq => ?_, ?_⟩⟩
    · rw [e, e]
      exact h1 (rep f o q.1, rep f o q.2) (List.mem_map_of_mem (f := fun q : Pr => (rep f o q.1, rep f o q.2)) hq)
    · rw [ap_free h]
      simp [ap]
theorem rep_num {f : Int} : ∀ {o : Kd}, rep f .num o = o ↔ kend o ≠ some f
  | .num => by simp [rep, ap, kend]
  | .lst o => by
    have := rep_num (f := f) (o := o)
    simp only [rep, ap, kend, Kd.lst.injEq] at this ⊢
    exact this
  | .any n => by
    by_cases hn : n = f <;> simp [rep, ap, kend, hn]
theorem kend_rep {f : Int} {o : Kd} : ∀ {a : Kd}, kend (rep f o a) = if kend a = some f then kend o else kend a
  | .num => by simp [rep, ap, kend]
  | .lst a => by
    have := kend_rep (f := f) (o := o) (a := a)
    simp only [rep, ap, kend] at this ⊢
    exact this
  | .any n => by
    by_cases hn : n = f <;> simp [rep, ap, kend, hn]
/-! ### how deep, how long -/
def inN (N : Nat) (a : Kd) : Prop := ∀ n, kend a = some n → 1 ≤ n ∧ n ≤ (N : Int)
structure Rdk (N : Nat) (t : Tb) (a : Kd) : Prop where
  full : ∃ i k, k.dp ≤ 1 ∧ Full t i k a
  inn : inN N a
structure Sv (N M : Nat) (t : Tb) (bs : List Int) (todo : List Pr) : Prop where
  ok : Ok t
  nd : bs.Nodup
  rng : ∀ b ∈ bs, 1 ≤ b ∧ b ≤ (N : Int)
  bnd : ∀ n k, t n = some k → n ∈ bs
  bnd2 : ∀ b ∈ bs, t b ≠ none
  many : todo.length ≤ M
  rd : ∀ q ∈ todo, Rdk N t q.1 ∧ Rdk N t q.2
theorem ints_len {N : Nat} {bs : List Int} (nd : bs.Nodup) (rng : ∀ b ∈ bs, 1 ≤ b ∧ b ≤ (N : Int)) : bs.length ≤ N := by
  have := nodup_len bs ((List.range N).map fun i : Nat => (i : Int) + 1) nd fun b hb => by
    have := rng b hb
    exact List.mem_map.mpr ⟨(b - 1).toNat, List.mem_range.mpr (by omega), by omega⟩
  simpa using this
theorem Rdk.deep {N M : Nat} {t : Tb} {bs : List Int} {todo : List Pr} {a : Kd} (S : Sv N M t bs todo) (h : Rdk N t a) : a.dp ≤ N + 1 := by
  obtain ⟨i, k, hk, f⟩ := h.full
  obtain ⟨vs, h1, h2, h3⟩ := f.vars S.ok.small
  have := ints_len (N := N) h1 fun v hv => by
    obtain ⟨⟨k, hk⟩, _⟩ := h2 v hv
    exact S.rng v (S.bnd v k hk)
  omega
theorem Sv.sub {N M : Nat} {t : Tb} {bs : List Int} {todo todo' : List Pr} (S : Sv N M t bs todo) (h : ∀ q ∈ todo', q ∈ todo) (hl : todo'.length ≤ M) : Sv N M t bs todo' :=
  ⟨S.ok, S.nd, S.rng, S.bnd, S.bnd2, hl, fun q hq => S.rd q (h q hq)⟩
theorem Sv.swap {N M : Nat} {t : Tb} {bs : List Int} {rest : List Pr} {a b : Kd} (S : Sv N M t bs (rest ++ [(a, b)])) : Sv N M t bs (rest ++ [(b, a)]) := by
  refine ⟨S.ok, S.nd, S.rng, S.bnd, S.bnd2, by have := S.many; simpa using this, fun q hq => ?_⟩
  rcases List.mem_append.mp hq with hq | hq
  · exact S.rd q (by simp [hq])
  · rw [List.mem_singleton.mp hq]
    have := S.rd (a, b) (by simp)
    exact ⟨this.2, this.1⟩
theorem Full.unlst {t : Tb} (ht : ∀ n k, t n = some k → k.dp ≤ 1) {i : Nat} {k r : Kd} (h : Full t i k r) : ∀ {a : Kd}, r = .lst a → k.dp ≤ 1 → ∃ j k', k'.dp ≤ 1 ∧ Full t j k' a := by
  induction h with
  | num => intro a e; cases e
  | free _ => intro a e; cases e
  | see e _ ih => intro a ea _; exact ih ea (ht _ _ e)
  | lst f _ =>
    intro a ea hk
    cases ea
    exact ⟨_, _, by simp [Kd.dp] at hk; omega, f⟩
theorem Rdk.unlst {N : Nat} {t : Tb} {a : Kd} (o : Ok t) (h : Rdk N t (.lst a)) : Rdk N t a := by
  obtain ⟨i, k, hk, f⟩ := h.full
  exact ⟨f.unlst o.small rfl hk, h.inn⟩
theorem Sv.lst {N M : Nat} {t : Tb} {bs : List Int} {rest : List Pr} {a b : Kd} (S : Sv N M t bs (rest ++ [(.lst a, .lst b)])) : Sv N M t bs (rest ++ [(a, b)]) := by
  refine ⟨S.ok, S.nd, S.rng, S.bnd, S.bnd2, by have := S.many; simpa using this, fun q hq => ?_⟩
  rcases List.mem_append.mp hq with hq | hq
  · exact S.rd q (by simp [hq])
  · rw [List.mem_singleton.mp hq]
    have := S.rd (.lst a, .lst b) (by simp)
    exact ⟨this.1.unlst S.ok, this.2.unlst S.ok⟩
theorem Sv.put {N M : Nat} {t : Tb} {bs : List Int} {rest : List Pr} {f : Int} {o : Kd} (S : Sv N M t bs (rest ++ [(.any f, o)])) (h : kend o ≠ some f) : ∃ t', Sv N M t' (f :: bs) (rest.map fun q => (rep f o q.1, rep f o q.2)) := by
  obtain ⟨hf, ho⟩ := S.rd (.any f, o) (by simp)
  obtain ⟨i, k, hk, ff⟩ := hf.full
  obtain ⟨j, k0, hk0, fo⟩ := ho.full
  have fr : t f = none := ff.free_end f rfl
  have fp : Full (t.put f k0) j k0 o := fo.put_off fr h
  refine ⟨t.put f k0, S.ok.put fr hk0 fo h, ?_, ?_, ?_, ?_, ?_, ?_⟩
  · exact List.nodup_cons.mpr ⟨fun hm => S.bnd2 f hm fr, S.nd⟩
  · intro b hb
    rcases List.mem_cons.mp hb with e | hb
    · rw [e]
      exact hf.inn f rfl
    · exact S.rng b hb
  · intro n k' e
    unfold Tb.put at e
    by_cases hn : n = f
    · simp [hn]
    · rw [if_neg hn] at e
      exact List.mem_cons_of_mem _ (S.bnd n k' e)
  · intro b hb
    unfold Tb.put
    by_cases hn : b = f
    · rw [if_pos hn]
      simp
    · rw [if_neg hn]
      exact S.bnd2 b ((List.mem_cons.mp hb).resolve_left hn)
  · have := S.many
    simp at this ⊢
    omega
  · intro q hq
    obtain ⟨q', hq', rfl⟩ := List.mem_map.mp hq
    have one : ∀ a : Kd, Rdk N t a → Rdk N (t.put f k0) (rep f o a) := fun a ha => by
      obtain ⟨i', k', hk', f'⟩ := ha.full
      obtain ⟨j', f''⟩ := Full.put_on fr fp f'
      refine ⟨⟨j', k', hk', f''⟩, fun n hn => ?_⟩
      rw [kend_rep] at hn
      split at hn
      · exact ho.inn n hn
      · exact ha.inn n hn
    have := S.rd q' (by simp [hq'])
    exact ⟨one _ this.1, one _ this.2⟩
def wt (todo : List Pr) : Nat := (todo.map fun q => q.1.dp + q.2.dp + 1).sum
def ms (N M : Nat) (bs : List Int) (todo : List Pr) : Nat := (N - bs.length) * (M * (2 * N + 3) + 1) + wt todo
theorem wt_snoc (rest : List Pr) (a b : Kd) : wt (rest ++ [(a, b)]) = wt rest + (a.dp + b.dp + 1) := by
  simp [wt]
theorem Sv.wt_le {N M : Nat} {t : Tb} {bs : List Int} {todo : List Pr} (S : Sv N M t bs todo) : wt todo ≤ M * (2 * N + 3) := by
  have one : ∀ l : List Pr, (∀ q ∈ l, q.1.dp ≤ N + 1 ∧ q.2.dp ≤ N + 1) → wt l ≤ l.length * (2 * N + 3) := by
    intro l
    induction l with
    | nil => intro _; simp [wt]
    | cons q l ih =>
      intro h
      have h1 := ih fun z hz => h z (by simp [hz])
      have h2 := h q (by simp)
      simp only [wt, List.map_cons, List.sum_cons, List.length_cons] at h1 ⊢
      rw [Nat.succ_mul]
      omega
  refine Nat.le_trans (one todo fun q hq => ⟨(S.rd q hq).1.deep S, (S.rd q hq).2.deep S⟩) (Nat.mul_le_mul_right _ S.many)
theorem Sv.ms_put {N M : Nat} {t' : Tb} {bs : List Int} {todo todo' : List Pr} {f : Int} (S : Sv N M t' (f :: bs) todo') : ms N M (f :: bs) todo' < ms N M bs todo := by
  have h1 := S.wt_le
  have h2 := ints_len S.nd S.rng
  unfold ms
  rw [List.length_cons] at *
  generalize M * (2 * N + 3) = B at h1
  have e : (N - bs.length) * (B + 1) = (N - (bs.length + 1)) * (B + 1) + (B + 1) := by
    rw [← Nat.succ_mul]
    congr 1
    omega
  rw [e]
  omega
theorem Sv.start {N M : Nat} {todo : List Pr} (hl : todo.length ≤ M) (h : ∀ q ∈ todo, (q.1.dp ≤ 1 ∧ inN N q.1) ∧ q.2.dp ≤ 1 ∧ inN N q.2) : Sv N M (fun _ => none) [] todo := by
  have fl : ∀ k : Kd, ∃ i, Full (fun _ => none) i k k := by
    intro k
    induction k with
    | num => exact ⟨_, .num⟩
    | lst k ih =>
      obtain ⟨i, h⟩ := ih
      exact ⟨_, .lst h⟩
    | any n => exact ⟨_, .free rfl⟩
  have ok : Ok (fun _ => none) := ⟨fun k => (fl k).elim fun i h => ⟨i, k, h⟩, fun n k e => by simp at e⟩
  refine ⟨ok, List.nodup_nil, by simp, by simp, by simp, hl, fun q hq => ?_⟩
  obtain ⟨⟨h1, h2⟩, h3, h4⟩ := h q hq
  exact ⟨⟨(fl q.1).elim fun i h => ⟨i, _, h1, h⟩, h2⟩, ⟨(fl q.2).elim fun i h => ⟨i, _, h3, h⟩, h4⟩⟩
end Tp
set_option Elab.async false
set_option linter.all false
set_option maxRecDepth 100000
set_option maxHeartbeats 4000000
set_option pp.maxSteps 500
set_option pp.deepTerms false
namespace Tp
open PySem PySem.Spec PyProof.Rows L2
local macro_rules | `(tactic| walk_at "r") => `(tactic| with_reducible first
  | refine r_seq ?_ | refine r_set ?_ | refine r_ret ?_ | refine r_ifS ?_ | refine r_drop ?_ | refine r_next ?_ | refine r_nx ?_ | refine r_rt ?_
  | refine r_var rfl ?_ | refine r_c ?_ | refine r_op ?_ | refine r_test ?_ | refine r_B ?_ | refine r_exbl ?_ | refine r_exstr ?_ | refine r_exref ?_ | refine r_exint ?_ | refine r_ex2 ?_ | refine r_not ?_ | refine r_and ?_ | refine r_or ?_
  | refine r_andV ?_ | refine r_orV ?_ | refine r_notV ?_ | refine r_ifE ?_ | refine r_chain ?_ | refine r_asg ?_
  | refine r_cb ?_ | refine r_cons ?_ | refine r_nil ?_ | refine r_call ?_ | refine r_par ?_ | refine r_tup ?_ | refine r_lst ?_
  | refine r_lc ?_ | refine r_dget ?_ | refine r_din ?_ | refine r_dnotin ?_ | refine r_dput ?_ | refine r_sl ?_ | refine r_part ?_ | refine r_nopart ?_ | refine r_for ?_ | refine r_iList ?_ | refine r_iTup ?_ | refine r_iStr ?_ | refine r_iKeys ?_ | refine r_rng1 ?_ | refine r_dsetd ?_ | refine r_dnew ?_ | refine r_bm ?_ | refine r_fldaug ?_ | refine r_fldset ?_ | refine r_dz ?_ | refine r_lz ?_ | refine r_gSub ?_ | refine r_dc ?_ | refine r_sc ?_ | refine r_iEnumB ?_ | refine r_iZipB ?_ | refine r_iRevA ?_ | refine r_yes1 ?_ | refine r_gName ?_ | refine r_gCons ?_ | refine r_gNil ?_
  | refine r_I0 ?_ | refine r_eq_str ?_ | refine r_eq_int ?_ | refine r_ne_str ?_ | refine r_ne_int ?_
  | refine r_isi_int_int ?_ | refine r_isi_int_bool ?_ | refine r_isi_str_str ?_ | refine r_isi_int_tup ?_ | refine r_isi_str_tup ?_)
local macro_rules | `(tactic| walk_at "rr") => `(tactic| repeat walk_at "r")
local macro_rules | `(tactic| walk_at "len") => `(tactic| (intro vs H Q E h; repeat (first | (obtain ⟨e, _⟩ := h; rw [e]; rfl) | (obtain ⟨_, h⟩ := h))))
local macro_rules | `(tactic| walk_at "ni") => `(tactic| first | exact ni0 | exact ni1 (by assumption) | exact ni2 (by assumption) (by assumption) | exact ni3 (by assumption) (by assumption) (by assumption))
local macro_rules | `(tactic| walk_at "sub") => `(tactic| first | (intro b hb; cases hb; done) | (intro b hb; exact hb) | (intro b hb; simp at hb ⊢; simp [hb]; done) | (intro b hb; simp at hb ⊢; omega))
local macro_rules | `(tactic| walk_at "kp") => `(tactic| first | assumption | exact Kp.refl _ _ | (refine Kp.step (by assumption) (by walk_at "sub") ?_; walk_at "kp"))
local macro_rules | `(tactic| walk_at "at") => `(tactic| first | assumption | (refine Kp.atT (by assumption) ?_; walk_at "at") | (refine Kp.at (by assumption) ?_ (by walk_at "ni"); walk_at "at"))
local macro_rules | `(tactic| walk_at "td") => `(tactic| first | assumption | exact TD.int _ | exact TD.str _ | exact TDs.nil | (refine TDs.cons ?_ ?_ <;> walk_at "td") | (refine TD.mk (by assumption) ?_; walk_at "td") | (refine TD.mono (by assumption) ?_; walk_at "td") | (refine TDs.mono (by assumption) ?_; walk_at "td"))
local macro_rules | `(tactic| walk_at "b") => `(tactic| first | rfl | decide +kernel | (simp <;> omega) | (simp [*] <;> omega))
local macro_rules | `(tactic| walk_at "if") => `(tactic| first | refine r_yes (by walk_at "b") ?_ | refine r_no (by walk_at "b") ?_)
local macro_rules | `(tactic| walk_at "go") => `(tactic| repeat (first | walk_at "r" | walk_at "if"))
local macro_rules | `(tactic| walk_at "pf") => `(tactic| repeat (fail_if_success (with_reducible refine r_for ?_); walk_at "r"))
local macro_rules | `(tactic| walk_at "pt") => `(tactic| repeat (fail_if_success (with_reducible refine r_ifS ?_); walk_at "r"))
local macro_rules | `(tactic| walk_at "wn") => `(tactic| refine r_no (decide_eq_false (by simp only [Tree.word]; decide +kernel)) ?_)
local macro_rules | `(tactic| walk_at "nx") => `(tactic| (walk_at "wn"; walk_at "rr"))
section
variable {P : Program} {w : World} {K : PySem.W.Frag} {mg : Str → Option Value} {base : Heap}
def prD (q : Pr) : PyData := .tuple [kd q.1, kd q.2]
theorem prD_lay (q : Pr) : (prD q).canLay0 = true := by simp [prD, PyData.canLay0, PyData.canLayAll0, kd_lay]
theorem prs_lay : ∀ ps : List Pr, PyData.canLayAll0 (ps.map prD) = true
  | [] => by simp [PyData.canLayAll0]
  | q :: ps => by simp [PyData.canLayAll0, prD_lay, prs_lay ps]
def PrAt (H : Hp) (l : Addr) (ps : List Pr) : Prop := ∃ vs, H l = some (.lst vs) ∧ TDs H vs (ps.map prD)
theorem PrAt.mono {M : List Addr} {H H' : Hp} {l : Addr} {ps : List Pr} (k : Kp M H H') (n : l ∉ M) (h : PrAt H l ps) : PrAt H' l ps := by
  obtain ⟨vs, h1, h2⟩ := h
  exact ⟨vs, k.at h1 n, h2.mono k⟩
theorem TD.pr_inv {H : Hp} {v : V} {q : Pr} (h : TD H v (prD q)) : ∃ a v1 v2, v = .ref a ∧ H a = some (.tup [v1, v2]) ∧ TD H v1 (kd q.1) ∧ TD H v2 (kd q.2) := by
  obtain ⟨a, xs, rfl, ha, t⟩ := h.inv
  obtain ⟨y0, ys, rfl, h0, t⟩ := t.cons_inv
  obtain ⟨y1, ys, rfl, h1, t⟩ := t.cons_inv
  cases t.nil_inv
  exact ⟨a, y0, y1, rfl, ha, h0, h1⟩
/-- a list of data against [], unlike -/
theorem r_ne_lnil2 {H : Hp} {Q : VK} {l p : Addr} {xs : List V} {ds : List PyData} (h : H l = some (.lst xs)) (hd : DpAll K H xs ds) (hp : H p = some (.lst [])) (hl : PyData.canLayAll0 ds = true) (q : Q (.bl (!ds.isEmpty)) H) : rNeX K (.ref l) (.ref p) H Q := by
  refine .inr ⟨.list ds, .list [], .lst (SqL.of h) hd, .lst (SqL.of hp) .nil, by simp [PyData.canLay0, hl], by simp [PyData.canLay0, PyData.canLayAll0], by simp [PyData.depth, PyData.depthAll], ?_⟩
  have e : PyData.eqv (.list ds) (.list []) = ds.isEmpty := by
    cases ds <;> simp [PyData.eqv, PyData.eqvAll]
  rw [e]
  exact q
theorem r_bm0 {ty : String} {r : V → List V → Hp → VK → Prop} {te : TE} {σ : L2.St} {H : Hp} {Q : VK} (h : te σ H fun x H1 => tyV K ty x H1 ∧ r x [] H1 Q) : tBM0 K ty r te σ H Q := h
theorem r_pop {H : Hp} {Q : VK} {l : Addr} {xs : List V} {y : V} (h : H l = some (.lst (xs ++ [y]))) (q : ∀ H2, Kp [l] H H2 → H2 l = some (.lst xs) → Q y H2) : rPop (.ref l) [] H Q := by
  refine ⟨l, xs ++ [y], y, rfl, rfl, h, by simp, ?_⟩
  rw [List.dropLast_concat]
  exact q _ (Kp.wr (by simp) h rfl) upd_same
theorem r_ne_kdm {x y : V} {j k : Kd} {H : Hp} {Q : VK} (h1 : TD H x (kd j)) (h2 : TD H y (kd k)) (m : min j.dp k.dp ≤ 199) (q : Q (.bl (!decide (j = k))) H) : rNeX K x y H Q :=
  r_ne_td h1 h2 (kd_lay j) (kd_lay k) (by have := kd_dep j; have := kd_dep k; omega) (by rw [kd_eqv]; exact q)
def sp_law_solved : Sp := fun vs H Q _ => ∃ (l : Addr) (ps : List Pr) (N : Nat), vs = [.ref l] ∧ PrAt H l ps ∧ ps.length ≤ 800 ∧ N ≤ 190 ∧ (∀ q ∈ ps, (q.1.dp ≤ 1 ∧ inN N q.1) ∧ q.2.dp ≤ 1 ∧ inN N q.2) ∧
  (∀ H', Kp [] H H' → ¬ Uni ps → Q .non H') ∧ ∀ a H', Kp [] H H' → Uni ps → Q (.ref a) H'
theorem sc__law_solved : FnScope ["rows", "todo", "found", "one", "other", "a", "b"] ["rows"] (defScope s__law_solved) := ⟨rfl, rfl, rfl, by decide +kernel, rfl, by decide +kernel, by decide +kernel⟩
theorem c_law_solved (T : Txt K mg) (C__law_put : Cal P w K mg base 202 "_law_put" ["kind", "free", "other"] (sp_law_put 200)) : Cal P w K mg base 203 "_law_solved" ["rows"] sp_law_solved := by
  obtain ⟨fd, F⟩ := T.F__law_solved
  refine mk_cal F T.g__law_solved (fun _ _ _ _ _ _ us hl => match us, hl with | [_], _ => rfl) (mk_ok F sc__law_solved (by walk_at "len") fun cdv A outer s H vs Q E hr h => ?_)
  obtain ⟨l, ps, N, rfl, ⟨xs, hl, ts⟩, hpl, hN, hin, qn, qy⟩ := h
  refine ⟨_, (pss_cons (ps_set (i := 1) sc__law_solved.nd rfl (by first | exact Or.inl rfl | exact Or.inr rfl) (pe_callTy (call_listKK (K := K) rfl) (by rfl) T.b_list (by decide +kernel) (pa_cons (pv 0) pa_nil))) (pss_cons (ps_set (i := 2) sc__law_solved.nd rfl (by first | exact Or.inl rfl | exact Or.inr rfl) (pe_lstK pa_nil)) (pss_cons (ps_while PassesOwn.never (pt_cmpR (op_neXK (K := K) hr rfl) (pv 1) (pe_lstK pa_nil) (nomark _)) (pss_cons (ps_asg (pe_bm0 PySem.F.plainAttrs_list PySem.F.slot_list_pop PySem.F.type_list_pop mt_pop (pv 1)) (pg_tup rfl (pgs_cons (pg_name (i := 3) sc__law_solved.nd rfl (by first | exact Or.inl rfl | exact Or.inr rfl)) (pgs_cons (pg_name (i := 4) sc__law_solved.nd rfl (by first | exact Or.inl rfl | exact Or.inr rfl)) pgs_nil)))) (C8.pss_cut (ps_if (pt_cmpR (op_eqXK (K := K) hr rfl) (pe_ix (ix_seqK (K := K) rfl) (pv 4) pe_int (fun _ _ => rfl)) pe_str (nomark _)) (pss_one (ps_asg (pe_tupK (pa_cons (pv 4) (pa_cons (pv 3) pa_nil))) (pg_tup rfl (pgs_cons (pg_name (i := 3) sc__law_solved.nd rfl (by first | exact Or.inl rfl | exact Or.inr rfl)) (pgs_cons (pg_name (i := 4) sc__law_solved.nd rfl (by first | exact Or.inl rfl | exact Or.inr rfl)) pgs_nil))))) pss_nil) (pss_one (ps_if (PW.pt (pw_and (pt_cmpR (op_eqXK (K := K) hr rfl) (pe_ix (ix_seqK (K := K) rfl) (pv 3) pe_int (fun _ _ => rfl)) pe_str (nomark _)) (pw_and1 (pt_cmpR (op_neXK (K := K) hr rfl) (pv 3) (pv 4) (nomark _))))) (pss_cons (ps_if (pt_cmpR (op_neXK (K := K) hr rfl) (pe_cal C__law_put hr (pa_cons (pv 4) (pa_cons (pv 3) (pa_cons pe_str pa_nil)))) (pv 4) (nomark _)) (pss_one (ps_ret pe_non)) pss_nil) (pss_cons (ps_setLc (i := 1) (own := [("a", 5), ("b", 6)]) (g := (gTup K 2 (gCons (gName 5) (gCons (gName 6) gNil)))) (tt := tYes) rfl sc__law_solved.nd rfl rfl (sw_true rfl rfl rfl (by decide +kernel)) (pi_list (pv 1)) (blkOk_by (own := [("a", 5), ("b", 6)]) (N := ["rows", "todo", "found", "one", "other", "a", "b"]) (sc := defScope s__law_solved) (by decide +kernel)) (fun _ _ _ _ _ => (pg_tup rfl (pgs_cons (pg_name (i := 5) sc__law_solved.nd rfl (by first | exact Or.inl rfl | exact Or.inr rfl)) (pgs_cons (pg_name (i := 6) sc__law_solved.nd rfl (by first | exact Or.inl rfl | exact Or.inr rfl)) pgs_nil)))) (fun _ _ _ _ _ => pts_nil) (fun _ _ _ _ _ => (pe_tupK (pa_cons (pe_cal C__law_put hr (pa_cons (pv 5) (pa_cons (pv 3) (pa_cons (pv 4) pa_nil)))) (pa_cons (pe_cal C__law_put hr (pa_cons (pv 6) (pa_cons (pv 3) (pa_cons (pv 4) pa_nil)))) pa_nil))))) (pss_one (ps_expr (pe_bm PySem.F.plainAttrs_list PySem.F.slot_list_append PySem.F.type_list_append mt_append (pv 2) (pa_cons (pe_tupK (pa_cons (pv 3) (pa_cons (pv 4) pa_nil))) pa_nil)))))) (pss_one (ps_if (PW.pt (pw_and (pt_cmpR (op_eqXK (K := K) hr rfl) (pe_ix (ix_seqK (K := K) rfl) (pv 3) pe_int (fun _ _ => rfl)) pe_str (nomark _)) (pw_and1 (pt_cmpR (op_eqXK (K := K) hr rfl) (pe_ix (ix_seqK (K := K) rfl) (pv 4) pe_int (fun _ _ => rfl)) pe_str (nomark _))))) (pss_one (ps_expr (pe_bm PySem.F.plainAttrs_list PySem.F.slot_list_append PySem.F.type_list_append mt_append (pv 1) (pa_cons (pe_tupK (pa_cons (pe_ix (ix_seqK (K := K) rfl) (pv 3) pe_int (fun _ _ => rfl)) (pa_cons (pe_ix (ix_seqK (K := K) rfl) (pv 4) pe_int (fun _ _ => rfl)) pa_nil))) pa_nil)))) (pss_one (ps_if (pt_cmpR (op_neXK (K := K) hr rfl) (pv 3) (pv 4) (nomark _)) (pss_one (ps_ret pe_non)) pss_nil))))))))) (pss_one (ps_ret (pv 2)))))), ?_⟩
  walk_at "rr"
  refine ⟨l, xs, rfl, .inl (SqL.of hl), fun l1 H1 k1 n1 e1 => ?_⟩
  walk_at "rr"
  refine ⟨by simp, fun fl H2 k2 n2 e2 => ?_⟩
  have l1f : l1 ≠ fl := ne_of_none e1 n2
  walk_at "rr"
  refine whileM (fun c σ H' => ∃ tl o3 o4 todo fs t bs, σ = [some (.ref l), some (.ref tl), some (.ref fl), o3, o4, none, none] ∧ Kp [] H H' ∧ H tl = none ∧ tl ≠ fl ∧ PrAt H' tl todo ∧ H' fl = some (.lst fs) ∧ fs.length = bs.length ∧ Sv N 800 t bs todo ∧ (Uni todo ↔ Uni ps) ∧ c = ms N 800 bs todo)
    ⟨_, l1, none, none, ps, [], _, [], rfl, k1.trans k2, n1, l1f, ⟨xs, k2.at e1 ni0, ts.mono (k1.trans k2)⟩, e2, rfl, Sv.start hpl hin, Iff.rfl, rfl⟩ ?_
  rintro c σ H3 ⟨tl, o3, o4, todo, fs, t, bs, rfl, k3, nt, tf, ⟨ys, h3, t3⟩, hf3, fsl, S, eu, rfl⟩
  have nfl : H fl = none := k1.free n2
  walk_at "rr"
  refine ⟨by simp, fun p4 H4 k4 n4 e4 => ?_⟩
  have h4 := k4.at h3 ni0
  have t4 := t3.mono k4
  refine r_ne_lnil2 h4 t4.dpAll e4 (prs_lay todo) ?_
  walk_at "rr"
  rcases List.eq_nil_or_concat todo with rfl | ⟨rest, q0, rfl⟩
  · refine r_no rfl ?_
    walk_at "rr"
    exact qy fl H4 (k3.trans k4) (eu.mp uni_nil)
  refine r_yes (by simp) ?_
  refine whN ?_
  obtain ⟨a, b⟩ := q0
  rw [List.concat_eq_append] at *
  rw [List.map_append] at t4
  have ys' : ∃ ys' y, ys = ys' ++ [y] ∧ TDs H4 ys' (rest.map prD) ∧ TD H4 y (prD (a, b)) := by
    rcases List.eq_nil_or_concat ys with rfl | ⟨ys', y, rfl⟩
    · exact absurd t4.1 (by simp)
    · rw [List.concat_eq_append] at t4 ⊢
      have hl' : ys'.length = (rest.map prD).length := by have := t4.1; simpa using this
      refine ⟨ys', y, rfl, ⟨hl', fun i x d h1 h2 => t4.2 i x d ?_ ?_⟩, t4.2 ys'.length y _ ?_ ?_⟩
      · rw [List.getElem?_append_left (List.getElem?_eq_some_iff.mp h1).1]
        exact h1
      · rw [List.getElem?_append_left (List.getElem?_eq_some_iff.mp h2).1]
        exact h2
      · simp
      · rw [hl']
        simp
  obtain ⟨ys', y, rfl, t5, ty⟩ := ys'
  walk_at "rr"
  refine r_bm0 ?_
  walk_at "rr"
  refine ⟨tyV_l h4, r_pop h4 fun H5 k5 e5 => ?_⟩
  have t5 := t5.mono k5
  have hf4 := k4.at hf3 ni0
  have hf5 := k5.at hf4 (ni1 (Ne.symm tf))
  obtain ⟨pa, v1, v2, rfl, ha, hv1, hv2⟩ := (ty.mono k5).pr_inv
  have k35 : Kp [] H H5 := (k3.trans k4).fresh nt k5
  refine r_gTup rfl ha rfl ?_
  walk_at "rr"
  refine r_cut (fun σ H' => ∃ v3 v4 a' b', σ = [some (.ref l), some (.ref tl), some (.ref fl), some v3, some v4, none, none] ∧ Kp [] H5 H' ∧ TD H' v3 (kd a') ∧ TD H' v4 (kd b') ∧ Sv N 800 t bs (rest ++ [(a', b')]) ∧ (Uni (rest ++ [(a', b')]) ↔ Uni ps) ∧ (∀ n, b' = .any n → ∃ m, a' = .any m) ∧ a'.dp + b'.dp = a.dp + b.dp) ?_ ?_
  · walk_at "rr"
    refine r_k0 hv2 ?_
    walk_at "rr"
    by_cases hb : ∃ n, b = .any n
    · obtain ⟨n, rfl⟩ := hb
      refine r_yes (k0_any_a n) ?_
      walk_at "rr"
      refine ⟨by simp, fun p6 H6 k6 n6 e6 => ?_⟩
      refine r_gTup rfl e6 rfl ?_
      walk_at "rr"
      exact ⟨v2, v1, .any n, a, rfl, k6, hv2.mono k6, hv1.mono k6, S.swap, uni_swap.trans eu, fun _ _ => ⟨n, rfl⟩, Nat.add_comm _ _⟩
    · have e0 : decide (k0 b = "any") = false := by
        cases b with
        | num => exact k0_num_a
        | lst k => exact k0_lst_a k
        | any n => exact absurd ⟨n, rfl⟩ hb
      refine r_no e0 ?_
      walk_at "rr"
      exact ⟨v1, v2, a, b, rfl, Kp.refl _ _, hv1, hv2, S, eu, fun n e => absurd ⟨n, e⟩ hb, rfl⟩
  rintro σ H6 ⟨v3, v4, a', b', rfl, k6, h3', h4', S', eu', hab, hdd⟩
  have hms : ms N 800 bs (rest ++ [(a', b')]) = ms N 800 bs (rest ++ [(a, b)]) := by
    unfold ms
    rw [wt_snoc, wt_snoc]
    omega
  rw [← hms]
  clear hms hdd S eu hv1 hv2 ha ty t4 h4
  have e6 := k6.at e5 ni0
  have t6 := t5.mono k6
  have hf6 := k6.at hf5 ni0
  have k36 := k35.trans k6
  have drop1 : ms N 800 bs rest < ms N 800 bs (rest ++ [(a', b')]) := by
    unfold ms
    rw [wt_snoc]
    omega
  have Srest : Sv N 800 t bs rest := S'.sub (fun q hq => by simp [hq]) (by have := S'.many; simp at this; omega)
  have dpb : b'.dp ≤ N + 1 := (S'.rd (a', b') (by simp)).2.deep S'
  have dps : ∀ q ∈ rest, q.1.dp < 200 ∧ q.2.dp < 200 := fun q hq => by
    have h1 := (S'.rd q (by simp [hq])).1.deep S'
    have h2 := (S'.rd q (by simp [hq])).2.deep S'
    omega
  have yl : ys'.length = rest.length := by rw [t6.1, List.length_map]
  have rl : rest.length < 800 := by have := S'.many; simp at this; omega
  have bl : bs.length ≤ N := ints_len S'.nd S'.rng
  walk_at "rr"
  refine r_k0 h3' ?_
  walk_at "rr"
  cases a' with
  | any f =>
    refine r_yes (k0_any_a f) ?_
    walk_at "rr"
    refine r_ne_kdm h3' h4' (by simp [Kd.dp]) ?_
    walk_at "rr"
    by_cases hne : Kd.any f = b'
    · refine r_no (by simp [hne]) ?_
      walk_at "rr"
      refine r_k0 h3' ?_
      walk_at "rr"
      refine r_no (k0_any_l f) ?_
      refine r_no rfl ?_
      walk_at "rr"
      refine r_ne_kdm h3' h4' (by simp [Kd.dp]) ?_
      walk_at "rr"
      refine r_no (by simp [hne]) ?_
      walk_at "rr"
      rw [← hne] at eu'
      exact ⟨_, drop1, tl, _, _, rest, fs, t, bs, rfl, k36, nt, tf, ⟨ys', e6, t6⟩, hf6, fsl, Srest, uni_same.symm.trans eu', rfl⟩
    · refine r_yes (by simp [hne]) ?_
      walk_at "rr"
      refine ⟨v4, v3, .str "number", b', .num, f, rfl, h4', h3', .str _, by omega, fun v7 H7 k7 t7 => ?_⟩
      walk_at "rr"
      refine r_ne_kdm t7 (h4'.mono k7) (by omega) ?_
      walk_at "rr"
      by_cases hk : kend b' = some f
      · have hr : rep f .num b' ≠ b' := fun e => rep_num.mp e hk
        refine r_yes (by simp [hr]) ?_
        walk_at "rr"
        exact qn H7 (k36.trans k7) fun u => uni_occurs hk (fun e => hne e.symm) (eu'.mpr u)
      · have hr : rep f .num b' = b' := rep_num.mpr hk
        refine r_no (by simp [hr]) ?_
        have k37 := k36.trans k7
        have e7 := k7.at e6 ni0
        have t8 := t6.mono k7
        have hf7 := k7.at hf6 ni0
        have h3'' := h3'.mono k7
        have h4'' := h4'.mono k7
        walk_at "rr"
        refine ⟨⟨_, SqL.of e7⟩, ?_⟩
        refine lcW (walk_list (xs := ys')) (by omega) [] (fun i acc H' => TDs H' acc ((((rest.take i).map fun q => (rep f b' q.1, rep f b' q.2))).map prD)) (fun H8 k8 => SqL.of (k8.at e7 ni0)) (fun _ _ _ _ => .nil) ?_ ?_
        · rintro i z D0 acc H8 H9 hi hD hl8 k8 hdd ta ⟨rfl, hz⟩
          obtain ⟨q, hq, hiq, htq⟩ := t8.map_get hz
          obtain ⟨d1, d2⟩ := dps q hq
          obtain ⟨pp, w1, w2, rfl, hpp, hw1, hw2⟩ := (htq.mono k8).pr_inv
          refine r_gTup rfl hpp rfl ?_
          walk_at "rr"
          refine ⟨rfl, ?_⟩
          walk_at "rr"
          refine r_yes rfl ?_
          walk_at "rr"
          refine ⟨w1, v3, v4, q.1, b', f, rfl, hw1, h3''.mono k8, h4''.mono k8, d1, fun v10 H10 k10 t10 => ?_⟩
          walk_at "rr"
          refine ⟨w2, v3, v4, q.2, b', f, rfl, hw2.mono k10, (h3''.mono k8).mono k10, (h4''.mono k8).mono k10, d2, fun v11 H11 k11 t11 => ?_⟩
          refine ⟨by simp, fun p12 H12 k12 n12 e12 => ?_⟩
          have k812 := k10.trans (k11.trans k12)
          refine lc_fin hD (by omega) hl8 (k8.trans k812) (k812.at hdd ni0) fun H13 k13 => ?_
          show TDs _ _ ((((rest.take (i + 1)).map fun q => (rep f b' q.1, rep f b' q.2))).map prD)
          rw [take_snoc2 hiq, List.map_append, List.map_append]
          exact ((ta.mono k812).snoc (TD.mk e12 (.cons ((t10.mono k11).mono k12) (.cons (t11.mono k12) .nil)))).mono k13
        · rintro D0 acc H8 hD hl8 k8 hdd ta
          rw [yl, List.take_length] at ta
          have hf8 := k8.at hf7 ni0
          have Df : D0 ≠ fl := Ne.symm (ne_of_none hf7 hD)
          walk_at "rr"
          refine ⟨tyV_l hf8, ?_⟩
          walk_at "rr"
          refine ⟨by simp, fun p9 H9 k9 n9 e9 => ?_⟩
          walk_at "rr"
          refine r_append (k9.at hf8 ni0) (by omega) ?_
          have kw : Kp [fl] H9 (upd H9 fl (.lst (fs ++ [.ref p9]))) := Kp.wr (by simp) (k9.at hf8 ni0) rfl
          have ew : (upd H9 fl (.lst (fs ++ [.ref p9]))) fl = some (.lst (fs ++ [.ref p9])) := upd_same
          generalize upd H9 fl (.lst (fs ++ [.ref p9])) = H10 at kw ew
          walk_at "rr"
          obtain ⟨t', S''⟩ := S'.put hk
          have k39 := k37.trans (k8.trans k9)
          exact ⟨_, S''.ms_put (todo := rest ++ [(.any f, b')]), D0, _, _, _, _, t', f :: bs, rfl, k39.fresh nfl kw, k37.free hD, Df, ⟨acc, kw.at (k9.at hdd ni0) (ni1 Df), (ta.mono k9).mono kw⟩, ew, by simp [fsl], S'', (uni_put hk).symm.trans eu', rfl⟩
  | num =>
    refine r_no k0_num_a ?_
    refine r_no rfl ?_
    walk_at "rr"
    refine r_k0 h3' ?_
    walk_at "rr"
    refine r_no k0_num_l ?_
    refine r_no rfl ?_
    walk_at "rr"
    refine r_ne_kdm h3' h4' (by simp [Kd.dp]) ?_
    walk_at "rr"
    cases b' with
    | num =>
      refine r_no (by simp) ?_
      walk_at "rr"
      exact ⟨_, drop1, tl, _, _, rest, fs, t, bs, rfl, k36, nt, tf, ⟨ys', e6, t6⟩, hf6, fsl, Srest, uni_same.symm.trans eu', rfl⟩
    | lst b2 =>
      refine r_yes (by simp) ?_
      walk_at "rr"
      exact qn H6 k36 fun u => uni_num_lst (eu'.mpr u)
    | any n =>
      obtain ⟨m, e⟩ := hab n rfl
      cases e
  | lst a2 =>
    refine r_no (k0_lst_a a2) ?_
    refine r_no rfl ?_
    walk_at "rr"
    refine r_k0 h3' ?_
    walk_at "rr"
    refine r_yes (k0_lst_l a2) ?_
    walk_at "rr"
    refine r_k0 h4' ?_
    walk_at "rr"
    cases b' with
    | num =>
      refine r_no k0_num_l ?_
      walk_at "rr"
      refine r_ne_kdm h3' h4' (by simp [Kd.dp]) ?_
      walk_at "rr"
      refine r_yes (by simp) ?_
      walk_at "rr"
      exact qn H6 k36 fun u => uni_lst_num (eu'.mpr u)
    | lst b2 =>
      refine r_yes (k0_lst_l b2) ?_
      walk_at "rr"
      refine ⟨tyV_l e6, ?_⟩
      walk_at "rr"
      refine r_k1_lst h3' fun y1 hy1 => ?_
      walk_at "rr"
      refine r_k1_lst h4' fun y2 hy2 => ?_
      refine ⟨by simp, fun p7 H7 k7 n7 e7 => ?_⟩
      walk_at "rr"
      refine r_append (k7.at e6 ni0) (by omega) ?_
      have kw : Kp [tl] H7 (upd H7 tl (.lst (ys' ++ [.ref p7]))) := Kp.wr (by simp) (k7.at e6 ni0) rfl
      have ew : (upd H7 tl (.lst (ys' ++ [.ref p7]))) tl = some (.lst (ys' ++ [.ref p7])) := upd_same
      generalize upd H7 tl (.lst (ys' ++ [.ref p7])) = H8 at kw ew
      walk_at "rr"
      have hlt : ms N 800 bs (rest ++ [(a2, b2)]) < ms N 800 bs (rest ++ [(.lst a2, .lst b2)]) := by
        unfold ms
        rw [wt_snoc, wt_snoc]
        simp only [Kd.dp]
        omega
      refine ⟨_, hlt, tl, _, _, _, fs, t, bs, rfl, (k36.trans k7).fresh nt kw, nt, tf, ⟨_, ew, ?_⟩, kw.at (k7.at hf6 ni0) (ni1 (Ne.symm tf)), fsl, S'.lst, uni_lst.symm.trans eu', rfl⟩
      rw [List.map_append]
      exact ((t6.mono k7).mono kw).snoc (TD.mk (kw.atT e7) (TDs.mono kw (.cons (hy1.mono k7) (.cons (hy2.mono k7) .nil))))
    | any n =>
      obtain ⟨m, e⟩ := hab n rfl
      cases e
end
end Tp
set_option Elab.async false
set_option linter.all false
set_option maxRecDepth 100000
set_option maxHeartbeats 4000000
namespace Tp
open PySem PySem.Spec PyProof.Rows L2

/-! ### the law's own demands, plainly: the program's rows in another order -/
/-- one tree after the other, each with its names: the rows, the kinds, the count -/
def genQs (f : Tree → Env' → Nat → List Row × Nat) : List (Tree × Env') → Nat → List Row × List Kd × Nat
  | [], c => ([], [], c)
  | q :: qs, c => ((f q.1 q.2 c).1 ++ (genQs f qs (f q.1 q.2 c).2).1, an c :: (genQs f qs (f q.1 q.2 c).2).2.1, (genQs f qs (f q.1 q.2 c).2).2.2)
theorem genQs_snoc (f : Tree → Env' → Nat → List Row × Nat) (q : Tree × Env') : ∀ (qs : List (Tree × Env')) (c : Nat), genQs f (qs ++ [q]) c =
    ((genQs f qs c).1 ++ (f q.1 q.2 (genQs f qs c).2.2).1, (genQs f qs c).2.1 ++ [an (genQs f qs c).2.2], (f q.1 q.2 (genQs f qs c).2.2).2)
  | [], c => by simp [genQs]
  | u :: qs, c => by
    simp only [List.cons_append, genQs, genQs_snoc f q qs]
    simp
theorem genQs_kinds (f : Tree → Env' → Nat → List Row × Nat) : ∀ (qs : List (Tree × Env')) (c : Nat), (genQs f qs c).2.1.length = qs.length
  | [], c => by simp [genQs]
  | u :: qs, c => by simp [genQs, genQs_kinds f qs]
/-- the names within, from this count on -/
def innerP : Tree → Env' → Nat → Env' × Nat
  | .lt _ x _ _, near, c => (near.put x (an c), c + 1)
  | .cs _ _ _ h t _, near, c => ((near.put h (an c)).put t (an (c + 1)), c + 2)
  | _, near, c => (near, c)
/-- the trees within, each with its names -/
def scopP : Tree → Env' → Env' → List (Tree × Env')
  | .lt _ _ a b, near, inner => [(a, near), (b, inner)]
  | .cs _ w e _ _ b, near, inner => [(w, near), (e, near), (b, inner)]
  | t, near, _ => t.subs.map fun s => (s, near)
theorem scopP_subs (t : Tree) (near inner : Env') : (scopP t near inner).map Prod.fst = t.subs := by
  cases t <;> simp [scopP, Tree.subs, Function.comp_def]
/-- the pairs of a tree, and the count behind them -/
def prsP (tb : Tab') (t : Tree) (own : Kd) (some' : List Kd) (near inner : Env') (c : Nat) : List (Kd × Kd) × Nat :=
  match t with
  | .num _ _ => ([(own, .num)], c)
  | .nil _ => ([(own, .lst (an c))], c + 1)
  | .use _ x _ =>
    match near x with
    | some k => ([(own, k)], c)
    | none =>
      match tb x with
      | some (ks, k) => (some'.zip ks ++ [(own, k)], c)
      | none => ([], c)
  | .op _ s _ _ =>
    match some' with
    | [a, b] => if s = ":" then ([(b, .lst a), (own, b)], c) else ((own, .num) :: (if s = "==" then [] else [(a, .num), (b, .num)]), c)
    | _ => ([], c)
  | .ite _ _ _ _ =>
    match some' with
    | [a, b, d] => ([(a, .num), (own, b), (own, d)], c)
    | _ => ([], c)
  | .lt _ x _ _ =>
    match some', inner x with
    | [a, b], some k => ([(k, a), (own, b)], c)
    | _, _ => ([], c)
  | .cs _ _ _ h t _ =>
    match some', inner h, inner t with
    | [a, b, d], some k, some j => ([(a, .lst k), (j, a), (own, b), (own, d)], c)
    | _, _, _ => ([], c)
/-- a row, or the same row with its sides the other way about -/
def flipR (r : Row) : Row := (r.1, r.2.2, r.2.1)
theorem flipR2 (r : Row) : flipR (flipR r) = r := rfl
def inF (r : Row) (rs : List Row) : Prop := r ∈ rs ∨ flipR r ∈ rs
theorem inF_nil {r : Row} : inF r [] ↔ False := by simp [inF]
theorem inF_cons {r x : Row} {l : List Row} : inF r (x :: l) ↔ (r = x ∨ flipR r = x) ∨ inF r l := by
  simp only [inF, List.mem_cons]
  constructor
  · rintro ((h | h) | h | h)
    · exact .inl (.inl h)
    · exact .inr (.inl h)
    · exact .inl (.inr h)
    · exact .inr (.inr h)
  · rintro ((h | h) | h | h)
    · exact .inl (.inl h)
    · exact .inr (.inl h)
    · exact .inl (.inr h)
    · exact .inr (.inr h)
theorem inF_app {r : Row} {a b : List Row} : inF r (a ++ b) ↔ inF r a ∨ inF r b := by
  simp only [inF, List.mem_append]
  constructor
  · rintro ((h | h) | h | h)
    · exact .inl (.inl h)
    · exact .inr (.inl h)
    · exact .inl (.inr h)
    · exact .inr (.inr h)
  · rintro ((h | h) | h | h)
    · exact .inl (.inl h)
    · exact .inr (.inl h)
    · exact .inl (.inr h)
    · exact .inr (.inr h)
structure SameR (rs ts : List Row) : Prop where
  iff : ∀ r, inF r rs ↔ inF r ts
  len : rs.length = ts.length
theorem SameR.refl (rs : List Row) : SameR rs rs := ⟨fun _ => Iff.rfl, rfl⟩
theorem SameR.trans {a b c : List Row} (h : SameR a b) (k : SameR b c) : SameR a c := ⟨fun r => (h.iff r).trans (k.iff r), h.len.trans k.len⟩
theorem SameR.app {a b c d : List Row} (h : SameR a b) (k : SameR c d) : SameR (a ++ c) (b ++ d) :=
  ⟨fun r => by rw [inF_app, inF_app, h.iff, k.iff], by rw [List.length_append, List.length_append, h.len, k.len]⟩
/-- what solves the one solves the other, of whichever places -/
theorem SameR.holds1 {rs ts : List Row} (h : SameR rs ts) (P : Pl → Bool) (s : Int → Kd) (k : Holds (ts.filter fun r => P r.1) s) : Holds (rs.filter fun r => P r.1) s := fun r hr => by
  obtain ⟨h1, h2⟩ := List.mem_filter.mp hr
  rcases (h.iff r).mp (.inl h1) with h3 | h3
  · exact k r (List.mem_filter.mpr ⟨h3, h2⟩)
  · exact (k (flipR r) (List.mem_filter.mpr ⟨h3, h2⟩)).symm
theorem SameR.symm {rs ts : List Row} (h : SameR rs ts) : SameR ts rs := ⟨fun r => (h.iff r).symm, h.len.symm⟩
theorem SameR.sat {rs ts : List Row} (h : SameR rs ts) (P : Pl → Bool) : Sat (rs.filter fun r => P r.1) ↔ Sat (ts.filter fun r => P r.1) :=
  ⟨fun ⟨s, k⟩ => ⟨s, h.symm.holds1 P s k⟩, fun ⟨s, k⟩ => ⟨s, h.holds1 P s k⟩⟩
/-- names are used as they may be -/
def hereE (tb : Tab') (near : Env') : Tree → Prop
  | .use _ x as => (∃ k, near x = some k ∧ as = []) ∨ (near x = none ∧ ∃ ks k, tb x = some (ks, k) ∧ ks.length = as.length)
  | .cs _ _ _ h t _ => h ≠ t
  | _ => True
theorem genArgs_qs (f : Tree → Env' → Nat → List Row × Nat) (near : Env') (p : Pl) : ∀ (ks : List Kd) (as : List Tree) (c : Nat), ks.length = as.length →
    (∀ r, inF r (genArgs (fun t c => f t near c) p ks as c).1 ↔ inF r (genQs f (as.map fun s => (s, near)) c).1 ∨ inF r (((genQs f (as.map fun s => (s, near)) c).2.1.zip ks).map fun q => (p, q.1, q.2))) ∧
    (genArgs (fun t c => f t near c) p ks as c).1.length = (genQs f (as.map fun s => (s, near)) c).1.length + as.length ∧ (genArgs (fun t c => f t near c) p ks as c).2 = (genQs f (as.map fun s => (s, near)) c).2.2
  | [], [], c, _ => by simp [genArgs, genQs, inF_nil]
  | [], _ :: _, c, h => by simp at h
  | _ :: _, [], c, h => by simp at h
  | k :: ks, t :: ts, c, h => by
    obtain ⟨h1, h2, h3⟩ := genArgs_qs f near p ks ts (f t near c).2 (by simpa using h)
    refine ⟨fun r => ?_, ?_, ?_⟩
    · simp only [genArgs, genQs, List.map_cons, inF_app, inF_cons, List.zip_cons_cons, h1]
      have e : (r = (p, k, an c) ∨ flipR r = (p, k, an c)) ↔ (r = (p, an c, k) ∨ flipR r = (p, an c, k)) := by
        obtain ⟨r1, r2, r3⟩ := r
        simp only [flipR, Prod.mk.injEq]
        constructor <;> rintro (⟨a, b, d⟩ | ⟨a, b, d⟩) <;> simp [a, b, d]
      rw [e]
      constructor
      · rintro (h | h | h | h)
        · exact .inl (.inl h)
        · exact .inr (.inl h)
        · exact .inl (.inr h)
        · exact .inr (.inr h)
      · rintro ((h | h) | h | h)
        · exact .inl h
        · exact .inr (.inr (.inl h))
        · exact .inr (.inl h)
        · exact .inr (.inr (.inr h))
    · simp only [genArgs, genQs, List.map_cons, List.length_append, List.length_cons, h2]
      omega
    · simp only [genArgs, genQs, List.map_cons, h3]
theorem put_at (e : Env') (x : Str) (k : Kd) : (e.put x k) x = some k := by simp [Env'.put]
theorem put_ne (e : Env') {x y : Str} (k : Kd) (h : y ≠ x) : (e.put x k) y = e y := by simp [Env'.put, h]
/-- a tree's rows, in the law's order -/
theorem gen_same (tb : Tab') (n : Nat) (t : Tree) (near : Env') (c : Nat) (hh : hereE tb near t) :
    SameR ((genQs (gen tb n) (scopP t near (innerP t near (c + 1)).1) (innerP t near (c + 1)).2).1 ++ (prsP tb t (an c) (genQs (gen tb n) (scopP t near (innerP t near (c + 1)).1) (innerP t near (c + 1)).2).2.1 near (innerP t near (c + 1)).1 (genQs (gen tb n) (scopP t near (innerP t near (c + 1)).1) (innerP t near (c + 1)).2).2.2).1.map fun q => (t.place, q.1, q.2)) (gen tb (n + 1) t near c).1 ∧
    (prsP tb t (an c) (genQs (gen tb n) (scopP t near (innerP t near (c + 1)).1) (innerP t near (c + 1)).2).2.1 near (innerP t near (c + 1)).1 (genQs (gen tb n) (scopP t near (innerP t near (c + 1)).1) (innerP t near (c + 1)).2).2.2).2 = (gen tb (n + 1) t near c).2 := by
  cases t with
  | num p i => exact ⟨SameR.refl _, rfl⟩
  | nil p => exact ⟨SameR.refl _, rfl⟩
  | use p x as =>
    rcases hh with ⟨k, h1, h2⟩ | ⟨h1, ks, k, h2, h3⟩
    · subst h2
      simp only [scopP, Tree.subs, List.map_nil, genQs, innerP, prsP, h1, gen, Tree.place]
      exact ⟨SameR.refl _, by trivial⟩
    · obtain ⟨g1, g2, g3⟩ := genArgs_qs (gen tb n) near p ks as (c + 1) h3
      have hk := genQs_kinds (gen tb n) (as.map fun s => (s, near)) (c + 1)
      simp only [scopP, Tree.subs, innerP, prsP, h1, h2, gen, Tree.place]
      refine ⟨⟨fun r => ?_, ?_⟩, g3.symm⟩
      · rw [List.map_append, inF_app, inF_app, inF_app, g1, or_assoc]
        rfl
      · simp only [List.map_append, List.length_append, List.length_map, List.length_zip, List.length_cons, List.length_nil, g2, hk] at *
        omega
  | op p s l r =>
    simp only [scopP, Tree.subs, List.map_cons, List.map_nil, genQs, innerP, prsP, gen, Tree.place, genOp]
    by_cases hs : s = ":"
    · simp only [if_pos hs]
      refine ⟨⟨fun r => ?_, ?_⟩, by trivial⟩
      · simp only [inF_app, inF_cons, inF_nil, List.append_nil, List.map_cons, List.map_nil, or_assoc]
      · simp [Nat.add_assoc]
    · simp only [if_neg hs]
      by_cases he : s = "=="
      · simp only [if_pos he]
        refine ⟨⟨fun r => ?_, ?_⟩, by trivial⟩
        · simp only [inF_app, inF_cons, inF_nil, List.append_nil, List.map_cons, List.map_nil, or_assoc]
        · simp [Nat.add_assoc]
      · simp only [if_neg he]
        refine ⟨⟨fun r => ?_, ?_⟩, by trivial⟩
        · simp only [inF_app, inF_cons, inF_nil, List.append_nil, List.map_cons, List.map_nil, or_assoc]
        · simp [Nat.add_assoc]
  | ite p x y z =>
    simp only [scopP, Tree.subs, List.map_cons, List.map_nil, genQs, innerP, prsP, gen, Tree.place]
    refine ⟨⟨fun r => ?_, ?_⟩, by trivial⟩
    · simp only [inF_app, inF_cons, inF_nil, List.append_nil, List.map_cons, List.map_nil, or_assoc]
    · simp [Nat.add_assoc]
  | lt p x a b =>
    simp only [scopP, genQs, innerP, prsP, gen, Tree.place, put_at, Nat.add_assoc]
    refine ⟨⟨fun r => ?_, ?_⟩, by trivial⟩
    · simp only [inF_app, inF_cons, inF_nil, List.append_nil, List.map_cons, List.map_nil, or_assoc]
      constructor
      · rintro (h | h | h | h | h | h | h)
        all_goals simp [h]
      · rintro (h | h | h | h | h | h | h)
        all_goals simp [h]
    · simp [Nat.add_assoc]
  | cs p w e h t b =>
    have hne : h ≠ t := hh
    simp only [scopP, genQs, innerP, prsP, gen, Tree.place, put_at, put_ne _ _ hne, Nat.add_assoc]
    refine ⟨⟨fun r => ?_, ?_⟩, by trivial⟩
    · simp only [inF_app, inF_cons, inF_nil, List.append_nil, List.map_cons, List.map_nil, or_assoc]
      constructor
      · rintro (h | h | h | h | h | h | h | h | h | h | h | h)
        all_goals simp [h]
      · rintro (h | h | h | h | h | h | h | h | h | h | h | h)
        all_goals simp [h]
    · simp [Nat.add_assoc]
/-! ### numbers one higher -/
def sh : Kd → Kd := ap fun n => .any (n + 1)
theorem sh_an (n : Nat) : sh (an n) = an (n + 1) := by simp [sh, ap]
theorem sh_dp : ∀ k : Kd, (sh k).dp = k.dp
  | .num => rfl
  | .lst k => by
    have := sh_dp k
    simp only [sh, ap, Kd.dp] at this ⊢
    omega
  | .any n => rfl
theorem sh_ap (s : Int → Kd) (k : Kd) : ap s (sh k) = ap (fun n => s (n + 1)) k := by
  unfold sh
  rw [ap_ap]
  rfl
def shR (r : Row) : Row := (r.1, sh r.2.1, sh r.2.2)
def shP (q : Kd × Kd) : Kd × Kd := (sh q.1, sh q.2)
def shE (e : Env') : Env' := fun x => (e x).map sh
def shT (tb : Tab') : Tab' := fun x => (tb x).map fun q => (q.1.map sh, sh q.2)
theorem shE_put (e : Env') (x : Str) (k : Kd) : shE (e.put x k) = (shE e).put x (sh k) := by
  funext y
  unfold shE Env'.put
  split <;> rfl
theorem inF_sh {r : Row} {ts : List Row} (h : inF r ts) : inF (shR r) (ts.map shR) := by
  rcases h with h | h
  · exact .inl (List.mem_map_of_mem h)
  · exact .inr (List.mem_map_of_mem (f := shR) h)
theorem SameR.sh {rs ts : List Row} (h : SameR rs ts) : SameR (rs.map shR) (ts.map shR) := by
  have one : ∀ {rs ts : List Row}, (∀ r, inF r rs → inF r ts) → ∀ r, inF r (rs.map shR) → inF r (ts.map shR) := fun {rs ts} h r hr => by
    rcases hr with hr | hr
    · obtain ⟨q, hq, rfl⟩ := List.mem_map.mp hr
      exact inF_sh (h q (.inl hq))
    · obtain ⟨q, hq, e⟩ := List.mem_map.mp hr
      have h2 := inF_sh (h q (.inl hq))
      rw [e] at h2
      rcases h2 with h2 | h2
      · exact .inr h2
      · exact .inl h2
  exact ⟨fun r => ⟨one (fun r => (h.iff r).mp) r, one (fun r => (h.iff r).mpr) r⟩, by rw [List.length_map, List.length_map, h.len]⟩
theorem sat_sh {ts : List Row} (P : Pl → Bool) : Sat ((ts.map shR).filter fun r => P r.1) ↔ Sat (ts.filter fun r => P r.1) := by
  constructor
  · rintro ⟨s, h⟩
    refine ⟨fun n => s (n + 1), fun r hr => ?_⟩
    obtain ⟨h1, h2⟩ := List.mem_filter.mp hr
    have := h (shR r) (List.mem_filter.mpr ⟨List.mem_map_of_mem h1, h2⟩)
    simpa only [shR, sh_ap] using this
  · rintro ⟨s, h⟩
    refine ⟨fun n => s (n - 1), fun r hr => ?_⟩
    obtain ⟨h1, h2⟩ := List.mem_filter.mp hr
    obtain ⟨q, hq, rfl⟩ := List.mem_map.mp h1
    have := h q (List.mem_filter.mpr ⟨hq, h2⟩)
    have e : (fun n : Int => s (n + 1 - 1)) = s := by
      funext n
      congr 1
      omega
    simp only [shR, sh_ap, e]
    exact this
theorem kend_sh : ∀ (k : Kd) (n : Int), kend (sh k) = some n → kend k = some (n - 1)
  | .num, n, h => by simp [sh, ap, kend] at h
  | .lst k, n, h => kend_sh k n h
  | .any m, n, h => by
    simp [sh, ap, kend] at h ⊢
    omega
/-! ### which numbers stand in the rows -/
def ltK (N : Nat) (k : Kd) : Prop := ∀ n, kend k = some n → 0 ≤ n ∧ n < (N : Int)
theorem ltK.mono {M N : Nat} {k : Kd} (h : ltK M k) (hl : M ≤ N) : ltK N k := fun n e => by
  have := h n e
  omega
theorem ltK_an {N n : Nat} (h : n < N) : ltK N (an n) := fun m e => by
  simp [kend] at e
  omega
theorem ltK_num {N : Nat} : ltK N .num := fun m e => by simp [kend] at e
theorem ltK_lst {N : Nat} {k : Kd} (h : ltK N k) : ltK N (.lst k) := fun m e => h m e
def ltE (N : Nat) (e : Env') : Prop := ∀ x k, e x = some k → ltK N k
def ltT (N : Nat) (tb : Tab') : Prop := ∀ x ks k, tb x = some (ks, k) → ltK N k ∧ ∀ j ∈ ks, ltK N j
theorem ltE.mono {M N : Nat} {e : Env'} (h : ltE M e) (hl : M ≤ N) : ltE N e := fun x k hx => (h x k hx).mono hl
theorem ltT.mono {M N : Nat} {e : Tab'} (h : ltT M e) (hl : M ≤ N) : ltT N e := fun x ks k hx => ⟨(h x ks k hx).1.mono hl, fun j hj => ((h x ks k hx).2 j hj).mono hl⟩
theorem ltE.put {N : Nat} {e : Env'} (h : ltE N e) (x : Str) {k : Kd} (hk : ltK N k) : ltE N (e.put x k) := fun y j hy => by
  unfold Env'.put at hy
  split at hy
  · cases hy
    exact hk
  · exact h y j hy
def ltR (N : Nat) (r : Row) : Prop := ltK N r.2.1 ∧ ltK N r.2.2
theorem ltR.mono {M N : Nat} {r : Row} (h : ltR M r) (hl : M ≤ N) : ltR N r := ⟨h.1.mono hl, h.2.mono hl⟩
theorem genArgs_lt {tb : Tab'} {near : Env'} {n : Nat} {p : Pl} (h : ∀ t c, Dep n t → ltT c tb → ltE c near → c + 1 ≤ (gen tb n t near c).2 ∧ (gen tb n t near c).2 ≤ c + 3 * sz t ∧ ∀ r ∈ (gen tb n t near c).1, ltR (gen tb n t near c).2 r) : ∀ (ks : List Kd) (as : List Tree) (c : Nat), (∀ t ∈ as, Dep n t) → ltT c tb → ltE c near → (∀ j ∈ ks, ltK c j) →
    c ≤ (genArgs (fun t c => gen tb n t near c) p ks as c).2 ∧ (genArgs (fun t c => gen tb n t near c) p ks as c).2 ≤ c + 3 * szs as ∧ ∀ r ∈ (genArgs (fun t c => gen tb n t near c) p ks as c).1, ltR (genArgs (fun t c => gen tb n t near c) p ks as c).2 r
  | [], as, c, _, _, _, _ => by simp [genArgs]
  | _ :: _, [], c, _, _, _, _ => by simp [genArgs]
  | k :: ks, t :: ts, c, hd, hT, hE, hk => by
    obtain ⟨h1, h2, h3⟩ := h t c (hd t (by simp)) hT hE
    obtain ⟨g1, g2, g3⟩ := genArgs_lt (p := p) h ks ts (gen tb n t near c).2 (fun u hu => hd u (by simp [hu])) (hT.mono (by omega)) (hE.mono (by omega)) fun j hj => (hk j (by simp [hj])).mono (by omega)
    simp only [genArgs, szs]
    refine ⟨by omega, by omega, fun r hr => ?_⟩
    rcases List.mem_append.mp hr with hr | hr
    · exact (h3 r hr).mono g1
    · rcases List.mem_cons.mp hr with rfl | hr
      · exact ⟨(hk k (by simp)).mono (by omega), ltK_an (by omega)⟩
      · exact g3 r hr
theorem gen_lt {tb : Tab'} : ∀ (n : Nat) (t : Tree) (near : Env') (c : Nat), Dep n t → ltT c tb → ltE c near → c + 1 ≤ (gen tb n t near c).2 ∧ (gen tb n t near c).2 ≤ c + 3 * sz t ∧ ∀ r ∈ (gen tb n t near c).1, ltR (gen tb n t near c).2 r
  | 0, t, near, c, hd, _, _ => by cases hd
  | n + 1, t, near, c, hd, hT, hE => by
    have ih := fun t near c h1 h2 h3 => gen_lt (tb := tb) n t near c h1 h2 h3
    have sub : ∀ s ∈ t.subs, Dep n s := fun s hs => hd.sub hs
    cases t with
    | num p i =>
      simp only [gen, sz]
      refine ⟨by omega, by omega, fun r hr => ?_⟩
      simp at hr
      subst hr
      exact ⟨ltK_an (by omega), ltK_num⟩
    | nil p =>
      simp only [gen, sz]
      refine ⟨by omega, by omega, fun r hr => ?_⟩
      simp at hr
      subst hr
      exact ⟨ltK_an (by omega), ltK_lst (ltK_an (by omega))⟩
    | use p x as =>
      simp only [gen, sz]
      split
      · rename_i k hk
        refine ⟨by simp, by simp; omega, fun r hr => ?_⟩
        simp at hr
        subst hr
        exact ⟨ltK_an (by simp), (hE x k hk).mono (by simp)⟩
      · split
        · rename_i ks k hk
          obtain ⟨a1, a2⟩ := hT x ks k hk
          obtain ⟨g1, g2, g3⟩ := genArgs_lt (p := p) (fun t c h1 h2 h3 => ih t near c h1 h2 h3) ks as (c + 1) sub (hT.mono (by omega)) (hE.mono (by omega)) fun j hj => (a2 j hj).mono (by omega)
          refine ⟨by omega, by omega, fun r hr => ?_⟩
          rcases List.mem_append.mp hr with hr | hr
          · exact g3 r hr
          · simp at hr
            subst hr
            exact ⟨ltK_an (by omega), a1.mono (by omega)⟩
        · exact ⟨by simp, by simp; omega, by simp⟩
    | op p s a b =>
      obtain ⟨a1, a2, a3⟩ := ih a near (c + 1) (sub a (by simp [Tree.subs])) (hT.mono (by omega)) (hE.mono (by omega))
      obtain ⟨b1, b2, b3⟩ := ih b near (gen tb n a near (c + 1)).2 (sub b (by simp [Tree.subs])) (hT.mono (by omega)) (hE.mono (by omega))
      simp only [gen, sz]
      refine ⟨by omega, by omega, fun r hr => ?_⟩
      rcases List.mem_append.mp hr with hr | hr
      · exact (a3 r hr).mono (by omega)
      · rcases List.mem_append.mp hr with hr | hr
        · exact b3 r hr
        · have o1 : ltK (gen tb n b near (gen tb n a near (c + 1)).2).2 (an c) := ltK_an (by omega)
          have o2 : ltK (gen tb n b near (gen tb n a near (c + 1)).2).2 (an (c + 1)) := ltK_an (by omega)
          have o3 : ltK (gen tb n b near (gen tb n a near (c + 1)).2).2 (an (gen tb n a near (c + 1)).2) := ltK_an (by omega)
          unfold genOp at hr
          split at hr
          · simp at hr
            rcases hr with rfl | rfl
            · exact ⟨o3, ltK_lst o2⟩
            · exact ⟨o1, o3⟩
          · split at hr
            · simp at hr
              subst hr
              exact ⟨o1, ltK_num⟩
            · simp at hr
              rcases hr with rfl | rfl | rfl
              · exact ⟨o1, ltK_num⟩
              · exact ⟨o2, ltK_num⟩
              · exact ⟨o3, ltK_num⟩
    | ite p x y z =>
      obtain ⟨a1, a2, a3⟩ := ih x near (c + 1) (sub x (by simp [Tree.subs])) (hT.mono (by omega)) (hE.mono (by omega))
      obtain ⟨b1, b2, b3⟩ := ih y near (gen tb n x near (c + 1)).2 (sub y (by simp [Tree.subs])) (hT.mono (by omega)) (hE.mono (by omega))
      obtain ⟨d1, d2, d3⟩ := ih z near (gen tb n y near (gen tb n x near (c + 1)).2).2 (sub z (by simp [Tree.subs])) (hT.mono (by omega)) (hE.mono (by omega))
      simp only [gen, sz]
      refine ⟨by omega, by omega, fun r hr => ?_⟩
      simp only [List.mem_append, List.mem_cons, List.not_mem_nil, or_false] at hr
      rcases hr with hr | hr | hr | rfl | rfl | rfl
      · exact (a3 r hr).mono (by omega)
      · exact (b3 r hr).mono (by omega)
      · exact d3 r hr
      · exact ⟨ltK_an (by omega), ltK_num⟩
      · exact ⟨ltK_an (by omega), ltK_an (by omega)⟩
      · exact ⟨ltK_an (by omega), ltK_an (by omega)⟩
    | lt p x a b =>
      obtain ⟨a1, a2, a3⟩ := ih a near (c + 2) (sub a (by simp [Tree.subs])) (hT.mono (by omega)) (hE.mono (by omega))
      obtain ⟨b1, b2, b3⟩ := ih b (near.put x (an (c + 1))) (gen tb n a near (c + 2)).2 (sub b (by simp [Tree.subs])) (hT.mono (by omega)) ((hE.mono (by omega)).put x (ltK_an (by omega)))
      simp only [gen, sz]
      refine ⟨by omega, by omega, fun r hr => ?_⟩
      simp only [List.mem_append, List.mem_cons, List.not_mem_nil, or_false] at hr
      rcases hr with hr | rfl | hr | rfl
      · exact (a3 r hr).mono (by omega)
      · exact ⟨ltK_an (by omega), ltK_an (by omega)⟩
      · exact b3 r hr
      · exact ⟨ltK_an (by omega), ltK_an (by omega)⟩
    | cs p w e h t b =>
      obtain ⟨a1, a2, a3⟩ := ih w near (c + 3) (sub w (by simp [Tree.subs])) (hT.mono (by omega)) (hE.mono (by omega))
      obtain ⟨b1, b2, b3⟩ := ih e near (gen tb n w near (c + 3)).2 (sub e (by simp [Tree.subs])) (hT.mono (by omega)) (hE.mono (by omega))
      obtain ⟨d1, d2, d3⟩ := ih b ((near.put h (an (c + 1))).put t (an (c + 2))) (gen tb n e near (gen tb n w near (c + 3)).2).2 (sub b (by simp [Tree.subs])) (hT.mono (by omega)) (((hE.mono (by omega)).put h (ltK_an (by omega))).put t (ltK_an (by omega)))
      simp only [gen, sz]
      refine ⟨by omega, by omega, fun r hr => ?_⟩
      simp only [List.mem_append, List.mem_cons, List.not_mem_nil, or_false] at hr
      rcases hr with hr | rfl | rfl | hr | rfl | hr | rfl
      · exact (a3 r hr).mono (by omega)
      · exact ⟨ltK_an (by omega), ltK_lst (ltK_an (by omega))⟩
      · exact ⟨ltK_an (by omega), ltK_an (by omega)⟩
      · exact (b3 r hr).mono (by omega)
      · exact ⟨ltK_an (by omega), ltK_an (by omega)⟩
      · exact d3 r hr
      · exact ⟨ltK_an (by omega), ltK_an (by omega)⟩
/-! ### the whole program -/
theorem heads_lt : ∀ (ds : List Df) (c : Nat), c ≤ (heads ds c).2 ∧ ∀ h ∈ (heads ds c).1, ltK (heads ds c).2 h.2 ∧ ∀ j ∈ h.1, ltK (heads ds c).2 j
  | [], c => by simp [heads]
  | d :: ds, c => by
    obtain ⟨h1, h2⟩ := heads_lt ds (c + d.params.length + 1)
    simp only [heads]
    refine ⟨by omega, fun h hh => ?_⟩
    rcases List.mem_cons.mp hh with rfl | hh
    · refine ⟨ltK_an (by omega), fun j hj => ?_⟩
      simp [headOf] at hj
      obtain ⟨a, ha, rfl⟩ := hj
      exact ltK_an (by omega)
    · exact h2 h hh
theorem heads_num : ∀ (ds : List Df) (c : Nat), (heads ds c).2 = c + (ds.map fun d => d.params.length + 1).sum
  | [], c => by simp [heads]
  | d :: ds, c => by
    simp only [heads, heads_num ds, List.map_cons, List.sum_cons]
    omega
theorem env_lt {N : Nat} (ps : List Str) (ks : List Kd) (h : ∀ j ∈ ks, ltK N j) : ltE N (envOf ps ks) := by
  have : ∀ (ps : List Str) (ks : List Kd) (e : Env'), (∀ j ∈ ks, ltK N j) → ltE N e → ltE N ((ps.zip ks).foldl (fun e q => e.put q.1 q.2) e) := by
    intro ps
    induction ps with
    | nil => intro ks e _ h; simpa using h
    | cons p ps ih =>
      intro ks e hk he
      cases ks with
      | nil => simpa using he
      | cons k ks => exact ih ks _ (fun j hj => hk j (by simp [hj])) (he.put p (hk k (by simp)))
  exact this ps ks _ h fun x k e => by cases e
theorem genDs_lt {tb : Tab'} : ∀ (ds : List Df) (hs : List (List Kd × Kd)) (c : Nat), (∀ d ∈ ds, Dep 10 d.body) → ltT c tb → (∀ h ∈ hs, ltK c h.2 ∧ ∀ j ∈ h.1, ltK c j) →
    c ≤ (genDs tb ds hs c).2 ∧ (genDs tb ds hs c).2 ≤ c + 3 * szP ds ∧ ∀ r ∈ (genDs tb ds hs c).1, ltR (genDs tb ds hs c).2 r
  | [], _, c, _, _, _ => by simp [genDs]
  | _ :: _, [], c, _, _, _ => by simp [genDs]
  | d :: ds, h :: hs, c, hd, hT, hh => by
    have h0 := hh h (by simp)
    obtain ⟨a1, a2, a3⟩ := gen_lt 10 d.body (envOf d.params h.1) c (hd d (by simp)) hT (env_lt _ _ h0.2)
    obtain ⟨b1, b2, b3⟩ := genDs_lt ds hs (gen tb 10 d.body (envOf d.params h.1) c).2 (fun u hu => hd u (by simp [hu])) (hT.mono (by omega)) fun g hg => ⟨(hh g (by simp [hg])).1.mono (by omega), fun j hj => ((hh g (by simp [hg])).2 j hj).mono (by omega)⟩
    simp only [genDs, szP, List.map_cons, List.sum_cons] at b2 ⊢
    refine ⟨by omega, by omega, fun r hr => ?_⟩
    simp only [List.mem_append, List.mem_cons] at hr
    rcases hr with hr | rfl | hr
    · exact (a3 r hr).mono b1
    · exact ⟨h0.1.mono (by omega), ltK_an (by omega)⟩
    · exact b3 r hr
theorem tbP_lt (p : List Df) : ltT (heads p 0).2 (tbP p) := fun x ks k h => by
  unfold tbP tbOf at h
  obtain ⟨q, hq, e⟩ := Option.map_eq_some_iff.mp h
  have := (heads_lt p 0).2 q.2 (List.of_mem_zip (List.mem_of_find?_eq_some hq)).2
  rw [e] at this
  exact this
theorem rsP_lt {p : List Df} (hd : ∀ d ∈ p, Dep 10 d.body) : ctP p ≤ (p.map fun d => d.params.length + 1).sum + 3 * szP p ∧ ∀ r ∈ rsP p, ltR (ctP p) r := by
  obtain ⟨a1, a2, a3⟩ := genDs_lt p (hdP p) (heads p 0).2 hd (tbP_lt p) (heads_lt p 0).2
  refine ⟨?_, a3⟩
  have := heads_num p 0
  unfold ctP
  omega
end Tp
set_option Elab.async false
set_option linter.all false
set_option maxRecDepth 100000
set_option maxHeartbeats 4000000
set_option pp.maxSteps 500
set_option pp.deepTerms false
namespace Tp
open PySem PySem.Spec PyProof.Rows L2
local macro_rules | `(tactic| walk_at "r") => `(tactic| with_reducible first
  | refine r_seq ?_ | refine r_set ?_ | refine r_ret ?_ | refine r_ifS ?_ | refine r_drop ?_ | refine r_next ?_ | refine r_nx ?_ | refine r_rt ?_
  | refine r_var rfl ?_ | refine r_c ?_ | refine r_op ?_ | refine r_test ?_ | refine r_B ?_ | refine r_exbl ?_ | refine r_exstr ?_ | refine r_exref ?_ | refine r_exint ?_ | refine r_ex2 ?_ | refine r_not ?_ | refine r_and ?_ | refine r_or ?_
  | refine r_andV ?_ | refine r_orV ?_ | refine r_notV ?_ | refine r_ifE ?_ | refine r_chain ?_ | refine r_asg ?_
  | refine r_cb ?_ | refine r_cons ?_ | refine r_nil ?_ | refine r_call ?_ | refine r_par ?_ | refine r_tup ?_ | refine r_lst ?_
  | refine r_lc ?_ | refine r_dget ?_ | refine r_din ?_ | refine r_dnotin ?_ | refine r_dput ?_ | refine r_sl ?_ | refine r_part ?_ | refine r_nopart ?_ | refine r_for ?_ | refine r_iList ?_ | refine r_iTup ?_ | refine r_iStr ?_ | refine r_iKeys ?_ | refine r_rng1 ?_ | refine r_dsetd ?_ | refine r_dnew ?_ | refine r_bm ?_ | refine r_fldaug ?_ | refine r_fldset ?_ | refine r_dz ?_ | refine r_lz ?_ | refine r_gSub ?_ | refine r_dc ?_ | refine r_sc ?_ | refine r_iEnumB ?_ | refine r_iZipB ?_ | refine r_iRevA ?_ | refine r_yes1 ?_ | refine r_gName ?_ | refine r_gCons ?_ | refine r_gNil ?_
  | refine r_I0 ?_ | refine r_eq_str ?_ | refine r_eq_int ?_ | refine r_ne_str ?_ | refine r_ne_int ?_
  | refine r_isi_int_int ?_ | refine r_isi_int_bool ?_ | refine r_isi_str_str ?_ | refine r_isi_int_tup ?_ | refine r_isi_str_tup ?_)
local macro_rules | `(tactic| walk_at "rr") => `(tactic| repeat walk_at "r")
local macro_rules | `(tactic| walk_at "len") => `(tactic| (intro vs H Q E h; repeat (first | (obtain ⟨e, _⟩ := h; rw [e]; rfl) | (obtain ⟨_, h⟩ := h))))
local macro_rules | `(tactic| walk_at "ni") => `(tactic| first | exact ni0 | exact ni1 (by assumption) | exact ni2 (by assumption) (by assumption) | exact ni3 (by assumption) (by assumption) (by assumption))
local macro_rules | `(tactic| walk_at "sub") => `(tactic| first | (intro b hb; cases hb; done) | (intro b hb; exact hb) | (intro b hb; simp at hb ⊢; simp [hb]; done) | (intro b hb; simp at hb ⊢; omega))
local macro_rules | `(tactic| walk_at "kp") => `(tactic| first | assumption | exact Kp.refl _ _ | (refine Kp.step (by assumption) (by walk_at "sub") ?_; walk_at "kp"))
local macro_rules | `(tactic| walk_at "at") => `(tactic| first | assumption | (refine Kp.atT (by assumption) ?_; walk_at "at") | (refine Kp.at (by assumption) ?_ (by walk_at "ni"); walk_at "at"))
local macro_rules | `(tactic| walk_at "td") => `(tactic| first | assumption | exact TD.int _ | exact TD.str _ | exact TDs.nil | (refine TDs.cons ?_ ?_ <;> walk_at "td") | (refine TD.mk (by assumption) ?_; walk_at "td") | (refine TD.mono (by assumption) ?_; walk_at "td") | (refine TDs.mono (by assumption) ?_; walk_at "td"))
local macro_rules | `(tactic| walk_at "b") => `(tactic| first | rfl | decide +kernel | (simp <;> omega) | (simp [*] <;> omega))
local macro_rules | `(tactic| walk_at "if") => `(tactic| first | refine r_yes (by walk_at "b") ?_ | refine r_no (by walk_at "b") ?_)
local macro_rules | `(tactic| walk_at "go") => `(tactic| repeat (first | walk_at "r" | walk_at "if"))
local macro_rules | `(tactic| walk_at "pf") => `(tactic| repeat (fail_if_success (with_reducible refine r_for ?_); walk_at "r"))
local macro_rules | `(tactic| walk_at "pt") => `(tactic| repeat (fail_if_success (with_reducible refine r_ifS ?_); walk_at "r"))
local macro_rules | `(tactic| walk_at "wn") => `(tactic| refine r_no (decide_eq_false (by simp only [Tree.word]; decide +kernel)) ?_)
local macro_rules | `(tactic| walk_at "nx") => `(tactic| (walk_at "wn"; walk_at "rr"))
section
variable {P : Program} {w : World} {K : PySem.W.Frag} {mg : Str → Option Value} {base : Heap}
/-- the heads: a dict of tuples (a list of kinds, a kind); the lists stand at none of M -/
def HtAt (H : Hp) (M : List Addr) (d : Addr) (tb : Tab') : Prop := ∃ kvs : List (Key × V), H d = some (.dK kvs) ∧ ∀ x, match tb x with
  | none => valV kvs (.inr x) = none
  | some (ks, k) => ∃ p q vs v, valV kvs (.inr x) = some (.ref p) ∧ H p = some (.tup [.ref q, v]) ∧ H q = some (.lst vs) ∧ q ∉ M ∧ TDs H vs (ks.map kd) ∧ TD H v (kd k)
theorem HtAt.mono {H H' : Hp} {M M' : List Addr} {d : Addr} {tb : Tab'} (h : HtAt H M d tb) (k : Kp M' H H') (s : ∀ b ∈ M', b ∈ M) (n : d ∉ M') : HtAt H' M d tb := by
  obtain ⟨kvs, h1, h2⟩ := h
  refine ⟨kvs, k.at h1 n, fun x => ?_⟩
  have h2 := h2 x
  split
  · rename_i e
    rw [e] at h2
    exact h2
  · rename_i ks kk e
    rw [e] at h2
    obtain ⟨p, q, vs, v, g1, g2, g3, g4, g5, g6⟩ := h2
    exact ⟨p, q, vs, v, g1, k.atT g2, k.at g3 (fun z => g4 (s q z)), g4, g5.mono k, g6.mono k⟩
theorem NrAt.monoM {H H' : Hp} {M : List Addr} {d : Addr} {near : Env'} {n : Nat} (N : NrAt H d near n) (k : Kp M H H') (h : d ∉ M) : NrAt H' d near n := by
  obtain ⟨kvs, h1, h3, h4⟩ := N
  refine ⟨kvs, k.at h1 h, h3, fun y => ?_⟩
  have h4 := h4 y
  split
  · rename_i e
    rw [e] at h4
    exact h4
  · rename_i kk e
    rw [e] at h4
    obtain ⟨v', g1, g2⟩ := h4
    exact ⟨v', g1, g2.mono k⟩
theorem r_nr_in {H : Hp} {d : Addr} {near : Env'} {n : Nat} {x : Str} {P : Addr → Option V → Prop} (N : NrAt H d near n) (q : ∀ o, o.isSome = (near x).isSome → P d o) : ∃ a o, V.ref d = .ref a ∧ DGet H a (.str x) o ∧ P a o := by
  obtain ⟨kvs, h1, h3, h4⟩ := N
  refine r_din_s h1 (q _ ?_)
  have h4 := h4 x
  split at h4
  · rename_i e
    rw [e, h4]
    rfl
  · rename_i k e
    obtain ⟨v, g, _⟩ := h4
    rw [e, g]
    rfl
theorem zipK_td {H : Hp} : ∀ {ts : List Addr} {xs ys : List V} {ss ks : List Kd}, Paired (fun (t : Addr) (q : V × V) => H t = some (.tup [q.1, q.2])) ts (xs.zip ys) → TDs H xs ((ss.map sh).map kd) → TDs H ys ((ks.map sh).map kd) → TDs H (ts.map V.ref) (((ss.zip ks).map shP).map prD)
  | ts, [], ys, ss, ks, h, h1, h2 => by
    cases h
    have : ss = [] := by
      have := h1.1
      simpa using this.symm
    subst this
    exact .nil
  | ts, _ :: _, [], ss, ks, h, h1, h2 => by
    cases h
    have : ks = [] := by
      have := h2.1
      simpa using this.symm
    subst this
    rw [List.zip_nil_right]
    exact .nil
  | [], _ :: _, _ :: _, _, _, h, _, _ => by cases h
  | t :: ts, x :: xs, y :: ys, [], _, _, h1, _ => by simp [TDs] at h1
  | t :: ts, x :: xs, y :: ys, _ :: _, [], _, _, h2 => by simp [TDs] at h2
  | t :: ts, x :: xs, y :: ys, s :: ss, k :: ks, h, h1, h2 => by
    cases h with
    | cons g1 g2 => exact .cons (TD.mk g1 (.cons h1.head (.cons h2.head .nil))) (zipK_td g2 h1.tail h2.tail)
def hereI (inner : Env') : Tree → Prop
  | .lt _ x _ _ => ∃ k, inner x = some k
  | .cs _ _ _ h t _ => (∃ k, inner h = some k) ∧ ∃ k, inner t = some k
  | _ => True
def sp_law_pairs : Sp := fun vs H Q _ => ∃ (v ov : V) (sl nd di hd cl : Addr) (t : Tree) (o : Kd) (svs : List V) (ss : List Kd) (near inner : Env') (nl ni : Nat) (tb : Tab') (c : Nat), vs = [v, ov, .ref sl, .ref nd, .ref di, .ref hd, .ref cl] ∧ TD H v (tr t) ∧ TD H ov (kd (sh o)) ∧
  H sl = some (.lst svs) ∧ TDs H svs ((ss.map sh).map kd) ∧ ss.length = t.subs.length ∧ t.subs.length ≤ 4 ∧ NrAt H nd (shE near) nl ∧ NrAt H di (shE inner) ni ∧ HtAt H [cl] hd (shT tb) ∧ H cl = some (.lst [.int (c : Int)]) ∧ hereE tb near t ∧ hereI inner t ∧
  ∀ a H', Kp [cl] H H' → H a = none → PrAt H' a ((prsP tb t o ss near inner c).1.map shP) → H' cl = some (.lst [.int (((prsP tb t o ss near inner c).2 : Nat) : Int)]) → Q (.ref a) H'
theorem sc__law_pairs : FnScope ["tree", "own", "some", "near", "inner", "heads", "count", "word", "pairs", "side"] ["tree", "own", "some", "near", "inner", "heads", "count"] (defScope s__law_pairs) := ⟨rfl, rfl, rfl, by decide +kernel, rfl, by decide +kernel, by decide +kernel⟩
theorem c_law_pairs (T : Txt K mg) (C__law_new : Cal P w K mg base 1 "_law_new" ["count"] sp_law_new) : Cal P w K mg base 2 "_law_pairs" ["tree", "own", "some", "near", "inner", "heads", "count"] sp_law_pairs := by
  obtain ⟨fd, F⟩ := T.F__law_pairs
  refine mk_cal F T.g__law_pairs (fun _ _ _ _ _ _ us hl => match us, hl with | [_, _, _, _, _, _, _], _ => rfl) (mk_ok F sc__law_pairs (by walk_at "len") fun cdv A outer s H vs Q E hr h => ?_)
  obtain ⟨v, ov, sl, nd, di, hd, cl, t, o, svs, ss, near, inner, nl, ni, tb, c, rfl, hv, ho, hs, ts, hsl, hs4, N, I', HT, hc, he, hi, q⟩ := h
  refine ⟨_, (pss_cons (ps_set (i := 7) sc__law_pairs.nd rfl (by first | exact Or.inl rfl | exact Or.inr rfl) (pe_ix (ix_seqK (K := K) rfl) (pv 0) pe_int (fun _ _ => rfl))) (pss_cons (ps_set (i := 8) sc__law_pairs.nd rfl (by first | exact Or.inl rfl | exact Or.inr rfl) (pe_lstK pa_nil)) (pss_cons (ps_if (pt_cmpR (op_eqXK (K := K) hr rfl) (pv 7) pe_str (nomark _)) (pss_one (ps_set (i := 8) sc__law_pairs.nd rfl (by first | exact Or.inl rfl | exact Or.inr rfl) (pe_lstK (pa_cons (pe_tupK (pa_cons (pv 1) (pa_cons pe_str pa_nil))) pa_nil)))) (pss_one (ps_if (pt_cmpR (op_eqXK (K := K) hr rfl) (pv 7) pe_str (nomark _)) (pss_one (ps_set (i := 8) sc__law_pairs.nd rfl (by first | exact Or.inl rfl | exact Or.inr rfl) (pe_lstK (pa_cons (pe_tupK (pa_cons (pv 1) (pa_cons (pe_tupK (pa_cons pe_str (pa_cons (pe_cal C__law_new hr (pa_cons (pv 6) pa_nil)) pa_nil))) pa_nil))) pa_nil)))) (pss_one (ps_if (PW.pt (pw_and (pt_cmpR (op_eqXK (K := K) hr rfl) (pv 7) pe_str (nomark _)) (pw_and1 (pt_cmp (pc_din (hu_of hr) (pe_ix (ix_seqK (K := K) rfl) (pv 0) pe_int (fun _ _ => rfl)) (pv 3)))))) (pss_one (ps_set (i := 8) sc__law_pairs.nd rfl (by first | exact Or.inl rfl | exact Or.inr rfl) (pe_lstK (pa_cons (pe_tupK (pa_cons (pv 1) (pa_cons (pe_dget (hu_of hr) (pv 3) (pe_ix (ix_seqK (K := K) rfl) (pv 0) pe_int (fun _ _ => rfl)) (fun _ _ => rfl)) pa_nil))) pa_nil)))) (pss_one (ps_if (pt_cmpR (op_eqXK (K := K) hr rfl) (pv 7) pe_str (nomark _)) (pss_one (ps_set (i := 8) sc__law_pairs.nd rfl (by first | exact Or.inl rfl | exact Or.inr rfl) (pe_op op_catK (pe_listZip false false rfl (by rfl) T.b_list (by rfl) T.b_zip (pa_cons (pv 2) (pa_cons (pe_ix (ix_seqK (K := K) rfl) (pe_dget (hu_of hr) (pv 5) (pe_ix (ix_seqK (K := K) rfl) (pv 0) pe_int (fun _ _ => rfl)) (fun _ _ => rfl)) pe_int (fun _ _ => rfl)) pa_nil))) (pe_lstK (pa_cons (pe_tupK (pa_cons (pv 1) (pa_cons (pe_ix (ix_seqK (K := K) rfl) (pe_dget (hu_of hr) (pv 5) (pe_ix (ix_seqK (K := K) rfl) (pv 0) pe_int (fun _ _ => rfl)) (fun _ _ => rfl)) pe_int (fun _ _ => rfl)) pa_nil))) pa_nil))))) (pss_one (ps_if (pt_cmpR (op_eqXK (K := K) hr rfl) (pv 7) pe_str (nomark _)) (pss_one (ps_set (i := 8) sc__law_pairs.nd rfl (by first | exact Or.inl rfl | exact Or.inr rfl) (pe_lstK (pa_cons (pe_tupK (pa_cons (pe_ix (ix_seqK (K := K) rfl) (pv 2) pe_int (fun _ _ => rfl)) (pa_cons pe_str pa_nil))) (pa_cons (pe_tupK (pa_cons (pv 1) (pa_cons (pe_ix (ix_seqK (K := K) rfl) (pv 2) pe_int (fun _ _ => rfl)) pa_nil))) (pa_cons (pe_tupK (pa_cons (pv 1) (pa_cons (pe_ix (ix_seqK (K := K) rfl) (pv 2) pe_int (fun _ _ => rfl)) pa_nil))) pa_nil)))))) (pss_one (ps_if (pt_cmpR (op_eqXK (K := K) hr rfl) (pv 7) pe_str (nomark _)) (pss_one (ps_set (i := 8) sc__law_pairs.nd rfl (by first | exact Or.inl rfl | exact Or.inr rfl) (pe_lstK (pa_cons (pe_tupK (pa_cons (pe_dget (hu_of hr) (pv 4) (pe_ix (ix_seqK (K := K) rfl) (pv 0) pe_int (fun _ _ => rfl)) (fun _ _ => rfl)) (pa_cons (pe_ix (ix_seqK (K := K) rfl) (pv 2) pe_int (fun _ _ => rfl)) pa_nil))) (pa_cons (pe_tupK (pa_cons (pv 1) (pa_cons (pe_ix (ix_seqK (K := K) rfl) (pv 2) pe_int (fun _ _ => rfl)) pa_nil))) pa_nil))))) (pss_one (ps_if (pt_cmpR (op_eqXK (K := K) hr rfl) (pv 7) pe_str (nomark _)) (pss_one (ps_set (i := 8) sc__law_pairs.nd rfl (by first | exact Or.inl rfl | exact Or.inr rfl) (pe_lstK (pa_cons (pe_tupK (pa_cons (pe_ix (ix_seqK (K := K) rfl) (pv 2) pe_int (fun _ _ => rfl)) (pa_cons (pe_tupK (pa_cons pe_str (pa_cons (pe_dget (hu_of hr) (pv 4) (pe_ix (ix_seqK (K := K) rfl) (pv 0) pe_int (fun _ _ => rfl)) (fun _ _ => rfl)) pa_nil))) pa_nil))) (pa_cons (pe_tupK (pa_cons (pe_dget (hu_of hr) (pv 4) (pe_ix (ix_seqK (K := K) rfl) (pv 0) pe_int (fun _ _ => rfl)) (fun _ _ => rfl)) (pa_cons (pe_ix (ix_seqK (K := K) rfl) (pv 2) pe_int (fun _ _ => rfl)) pa_nil))) (pa_cons (pe_tupK (pa_cons (pv 1) (pa_cons (pe_ix (ix_seqK (K := K) rfl) (pv 2) pe_int (fun _ _ => rfl)) pa_nil))) (pa_cons (pe_tupK (pa_cons (pv 1) (pa_cons (pe_ix (ix_seqK (K := K) rfl) (pv 2) pe_int (fun _ _ => rfl)) pa_nil))) pa_nil))))))) (pss_one (ps_if (pt_cmpR (op_eqXK (K := K) hr rfl) (pe_ix (ix_seqK (K := K) rfl) (pv 0) pe_int (fun _ _ => rfl)) pe_str (nomark _)) (pss_one (ps_set (i := 8) sc__law_pairs.nd rfl (by first | exact Or.inl rfl | exact Or.inr rfl) (pe_lstK (pa_cons (pe_tupK (pa_cons (pe_ix (ix_seqK (K := K) rfl) (pv 2) pe_int (fun _ _ => rfl)) (pa_cons (pe_tupK (pa_cons pe_str (pa_cons (pe_ix (ix_seqK (K := K) rfl) (pv 2) pe_int (fun _ _ => rfl)) pa_nil))) pa_nil))) (pa_cons (pe_tupK (pa_cons (pv 1) (pa_cons (pe_ix (ix_seqK (K := K) rfl) (pv 2) pe_int (fun _ _ => rfl)) pa_nil))) pa_nil))))) (pss_one (ps_set (i := 8) sc__law_pairs.nd rfl (by first | exact Or.inl rfl | exact Or.inr rfl) (pe_op op_catK (pe_lstK (pa_cons (pe_tupK (pa_cons (pv 1) (pa_cons pe_str pa_nil))) pa_nil)) (pe_lc (own := [("side", 9)]) (g := (gName 9)) rfl sc__law_pairs.nd (pi_list (pv 2)) (blkOk_by (own := [("side", 9)]) (N := ["tree", "own", "some", "near", "inner", "heads", "count", "word", "pairs", "side"]) (sc := defScope s__law_pairs) (by decide +kernel)) (fun _ _ _ _ _ => (pg_name (i := 9) sc__law_pairs.nd rfl (by first | exact Or.inl rfl | exact Or.inr rfl))) (fun _ _ _ _ _ => (pts_one (pt_cmpR (op_neXK (K := K) hr rfl) (pe_ix (ix_seqK (K := K) rfl) (pv 0) pe_int (fun _ _ => rfl)) pe_str (nomark _)))) (fun _ _ _ _ _ => (pe_tupK (pa_cons (pv 9) (pa_cons pe_str pa_nil))))))))))))))))))))))) (pss_one (ps_ret (pv 8)))))), ?_⟩
  have hv2 := hv
  rw [tr_eq] at hv2
  walk_at "rr"
  refine r_ix_str hv2 0 rfl ?_
  walk_at "rr"
  refine ⟨by simp, fun p0 H1 k1 n1 e1 => ?_⟩
  walk_at "rr"
  have k1' : Kp [cl] H H1 := k1.mono (by simp)
  have s1 := k1.at hs ni0
  have c1 := k1.at hc ni0
  have ho1 := ho.mono k1
  have hv1 := hv.mono k1
  have ts1 := ts.mono k1
  cases t with
  | num p i =>
    refine r_yes rfl ?_
    walk_at "rr"
    refine ⟨by simp, fun p2 H2 k2 n2 e2 => ?_⟩
    walk_at "rr"
    refine ⟨by simp, fun p3 H3 k3 n3 e3 => ?_⟩
    walk_at "rr"
    refine q p3 H3 (k1'.trans ((k2.trans k3).mono (by simp))) ((k1.trans k2).free n3) ⟨_, e3, .cons ?_ .nil⟩ ((k2.trans k3).at c1 ni0)
    exact TD.mk (k3.atT e2) (.cons (ho1.mono (k2.trans k3)) (.cons (.str _) .nil))
  | nil p =>
    walk_at "nx"
    refine r_yes rfl ?_
    walk_at "rr"
    refine ⟨cl, c, rfl, c1, fun v2 H2 k2 e2 t2 => ?_⟩
    refine ⟨by simp, fun p3 H3 k3 n3 e3 => ?_⟩
    walk_at "rr"
    refine ⟨by simp, fun p4 H4 k4 n4 e4 => ?_⟩
    walk_at "rr"
    refine ⟨by simp, fun p5 H5 k5 n5 e5 => ?_⟩
    walk_at "rr"
    have k25 := k3.trans (k4.trans k5)
    refine q p5 H5 (k1'.trans (k2.trans (k25.mono (by simp)))) (((k1'.trans k2).trans ((k3.trans k4).mono (by simp))).free n5) ⟨_, e5, .cons ?_ .nil⟩ (k25.at e2 ni0)
    refine TD.mk (k5.atT e4) (.cons (ho1.mono (k2.trans (k25.mono (by simp)))) (.cons (TD.mk ((k4.trans k5).atT e3) (.cons (.str _) (.cons ?_ .nil))) .nil))
    show TD H5 v2 (kd (sh (an c)))
    rw [sh_an]
    exact t2.mono k25
  | use p x as =>
    rw [tr_use] at hv1
    walk_at "nx"
    walk_at "nx"
    refine r_yes rfl ?_
    walk_at "rr"
    refine r_ix_str hv1 2 rfl ?_
    walk_at "rr"
    have N1 := N.mono0 k1
    refine r_nr_in N1 fun on hon => ?_
    rw [hon]
    walk_at "rr"
    have hsn : (shE near x).isSome = (near x).isSome := by
      unfold shE
      cases near x <;> rfl
    rcases he with ⟨k, g1, g2⟩ | ⟨g1, ks, k, g2, g3⟩
    · refine r_yes (by rw [hsn, g1]; rfl) ?_
      walk_at "rr"
      refine r_ix_str hv1 2 rfl ?_
      walk_at "rr"
      refine r_nr_get N1 (k := sh k) (by unfold shE; rw [g1]; rfl) fun kv hkv => ?_
      walk_at "rr"
      refine ⟨by simp, fun p2 H2 k2 n2 e2 => ?_⟩
      walk_at "rr"
      refine ⟨by simp, fun p3 H3 k3 n3 e3 => ?_⟩
      walk_at "rr"
      have e : prsP tb (.use p x as) o ss near inner c = ([(o, k)], c) := by simp [prsP, g1]
      rw [e] at q
      refine q p3 H3 (k1'.trans ((k2.trans k3).mono (by simp))) ((k1.trans k2).free n3) ⟨_, e3, .cons ?_ .nil⟩ ((k2.trans k3).at c1 ni0)
      exact TD.mk (k3.atT e2) (.cons (ho1.mono (k2.trans k3)) (.cons (hkv.mono (k2.trans k3)) .nil))
    · refine r_no (by rw [hsn, g1]; rfl) ?_
      walk_at "rr"
      refine r_yes rfl ?_
      walk_at "rr"
      obtain ⟨kvs, t1, t2⟩ := HT.mono k1 (by simp) ni0
      have t2 := t2 x
      rw [show shT tb x = some (ks.map sh, sh k) by unfold shT; rw [g2]; rfl] at t2
      obtain ⟨hp, hq, hvs, hkv, w1, w2, w3, w4, w5, w6⟩ := t2
      refine r_ix_str hv1 2 rfl ?_
      walk_at "rr"
      refine r_dget_s t1 w1 ?_
      refine .inr (.inl ⟨hp, _, 0, _, rfl, rfl, SqT.of w2, rfl, ?_⟩)
      have hl1 : svs.length = as.length := by rw [ts.1, List.length_map, List.length_map, hsl]; rfl
      have hl2 : hvs.length = as.length := by rw [w5.1, List.length_map, List.length_map, g3]
      refine ⟨sl, hq, _, _, rfl, sqBl s1, sqBl w3, by omega, fun pz zs H2 k2 n2 e2 pr => ?_⟩
      walk_at "rr"
      refine r_ix_str (hv1.mono k2) 2 rfl ?_
      walk_at "rr"
      refine r_dget_s (k2.at t1 ni0) w1 ?_
      refine .inr (.inl ⟨hp, _, 1, _, rfl, rfl, SqT.of (k2.atT w2), rfl, ?_⟩)
      walk_at "rr"
      refine ⟨by simp, fun p3 H3 k3 n3 e3 => ?_⟩
      walk_at "rr"
      refine ⟨by simp, fun p4 H4 k4 n4 e4 => ?_⟩
      have zl : zs.length ≤ 4 := by
        have := Paired.length pr
        rw [List.length_zip] at this
        have : as.length ≤ 4 := hs4
        omega
      refine ⟨pz, p4, zs.map V.ref, [.ref p3], rfl, rfl, (k3.trans k4).at e2 ni0, e4, by simp; omega, fun p5 H5 k5 n5 e5 => ?_⟩
      walk_at "rr"
      have e : prsP tb (.use p x as) o ss near inner c = (ss.zip ks ++ [(o, k)], c) := by simp [prsP, g1, g2]
      rw [e] at q
      have k25 := k2.trans (k3.trans (k4.trans k5))
      refine q p5 H5 (k1'.trans (k25.mono (by simp))) ((k1.trans (k2.trans (k3.trans k4))).free n5) ⟨_, e5, ?_⟩ (k25.at c1 ni0)
      show TDs H5 _ (((ss.zip ks ++ [(o, k)]).map shP).map prD)
      rw [List.map_append, List.map_append]
      refine TDs.snoc ((zipK_td pr (ts1.mono k2) (w5.mono k2)).mono (k3.trans (k4.trans k5))) ?_
      exact TD.mk ((k4.trans k5).atT e3) (.cons (ho1.mono k25) (.cons (w6.mono k25) .nil))
  | op p s l r =>
    rw [tr_op] at hv1
    walk_at "nx"
    walk_at "nx"
    walk_at "wn"
    refine r_no rfl ?_
    walk_at "rr"
    walk_at "nx"
    walk_at "nx"
    walk_at "nx"
    walk_at "nx"
    match ss, hsl with
    | [k0, k1x], _ =>
      obtain ⟨x0, ys, rfl, g0, ts2⟩ := TDs.cons_inv (show TDs H1 svs [kd (sh k0), kd (sh k1x)] from ts1)
      obtain ⟨x1, ys, rfl, g1, ts2⟩ := ts2.cons_inv
      cases ts2.nil_inv
      refine r_ix_str hv1 2 rfl ?_
      walk_at "rr"
      by_cases hs : s = ":"
      · refine r_yes (decide_eq_true hs) ?_
        walk_at "rr"
        refine r_ixL s1 1 rfl ?_
        walk_at "rr"
        refine r_ixL s1 0 rfl ?_
        refine ⟨by simp, fun p2 H2 k2 n2 e2 => ?_⟩
        refine ⟨by simp, fun p3 H3 k3 n3 e3 => ?_⟩
        walk_at "rr"
        refine r_ixL ((k2.trans k3).at s1 ni0) 1 rfl ?_
        refine ⟨by simp, fun p4 H4 k4 n4 e4 => ?_⟩
        walk_at "rr"
        refine ⟨by simp, fun p5 H5 k5 n5 e5 => ?_⟩
        walk_at "rr"
        have e : prsP tb (.op p s l r) o [k0, k1x] near inner c = ([(k1x, .lst k0), (o, k1x)], c) := by simp [prsP, hs]
        rw [e] at q
        have k15 := k2.trans (k3.trans (k4.trans k5))
        refine q p5 H5 (k1'.trans (k15.mono (by simp))) ((k1.trans (k2.trans (k3.trans k4))).free n5) ⟨_, e5, .cons ?_ (.cons ?_ .nil)⟩ (k15.at c1 ni0)
        · exact TD.mk ((k4.trans k5).atT e3) (.cons (g1.mono k15) (.cons (TD.mk ((k3.trans (k4.trans k5)).atT e2) (.cons (.str _) (.cons (g0.mono k15) .nil))) .nil))
        · exact TD.mk (k5.atT e4) (.cons (ho1.mono k15) (.cons (g1.mono k15) .nil))
      · refine r_no (decide_eq_false hs) ?_
        walk_at "rr"
        refine ⟨by simp, fun p2 H2 k2 n2 e2 => ?_⟩
        walk_at "rr"
        refine ⟨by simp, fun p3 H3 k3 n3 e3 => ?_⟩
        have k13 := k2.trans k3
        have s3 := k13.at s1 ni0
        walk_at "rr"
        refine ⟨⟨_, SqL.of s3⟩, ?_⟩
        refine lcW (walk_list (xs := [x0, x1])) (by simp) [] (fun i acc H' => TDs H' acc (if s = "==" then [] else (([k0, k1x].take i).map fun k => prD (sh k, .num)))) (fun H2 k => SqL.of (k.at s3 ni0)) (fun _ _ _ _ => by simp [TDs.nil]) ?_ ?_
        · rintro i z D0 acc H6 H7 hi hD hl6 k6 hdd ta ⟨rfl, hz⟩
          walk_at "rr"
          refine ⟨rfl, ?_⟩
          walk_at "rr"
          refine r_ix_str ((hv1.mono k13).mono k6) 2 rfl ?_
          walk_at "rr"
          by_cases hq : s = "=="
          · refine r_no (by simp [hq]) ?_
            rw [if_pos hq] at ta
            refine ⟨acc, by omega, k6, hdd, ?_⟩
            show TDs H7 acc (if s = "==" then [] else (([k0, k1x].take (i + 1)).map fun k => prD (sh k, .num)))
            rw [if_pos hq]
            exact ta
          · refine r_yes (by simp [hq]) ?_
            rw [if_neg hq] at ta
            walk_at "rr"
            refine ⟨by simp, fun p8 H8 k8 n8 e8 => ?_⟩
            refine lc_fin hD (by simp at hi; omega) hl6 (k6.trans k8) (k8.at hdd ni0) fun H9 k9 => ?_
            rw [if_neg hq]
            have gz : ∃ kz, [k0, k1x][i]? = some kz ∧ TD H7 z (kd (sh kz)) := by
              match i, hi with
              | 0, _ =>
                cases hz
                exact ⟨k0, rfl, (g0.mono k13).mono k6⟩
              | 1, _ =>
                cases hz
                exact ⟨k1x, rfl, (g1.mono k13).mono k6⟩
            obtain ⟨kz, hkz, tz⟩ := gz
            rw [take_snoc2 hkz, List.map_append]
            exact ((ta.mono k8).snoc (TD.mk e8 (.cons (tz.mono k8) (.cons (.str _) .nil)))).mono k9
        · rintro D0 acc H6 hD _ k6 hdd ta
          have k36 := k6
          walk_at "rr"
          refine ⟨p3, D0, [.ref p2], acc, rfl, rfl, k6.at e3 ni0, hdd, ?_, fun p7 H7 k7 n7 e7 => ?_⟩
          · have := ta.1
            split at this
            · simp at this; simp [this]
            · simp at this; simp [this]
          walk_at "rr"
          have e : prsP tb (.op p s l r) o [k0, k1x] near inner c = ((o, .num) :: (if s = "==" then [] else [(k0, .num), (k1x, .num)]), c) := by simp [prsP, hs]
          rw [e] at q
          have k17 := k13.trans (k6.trans k7)
          refine q p7 H7 (k1'.trans (k17.mono (by simp))) ((k1.trans (k13.trans k6)).free n7) ⟨_, e7, ?_⟩ (k17.at c1 ni0)
          rw [List.map_cons, List.map_cons]
          refine .cons (TD.mk ((k3.trans (k6.trans k7)).atT e2) (.cons (ho1.mono k17) (.cons (.str _) .nil))) ?_
          refine TDs.mono k7 ?_
          by_cases hq : s = "=="
          · rw [if_pos hq] at ta ⊢
            exact ta
          · rw [if_neg hq] at ta ⊢
            exact ta
  | ite p x y z =>
    walk_at "nx"
    walk_at "nx"
    walk_at "wn"
    refine r_no rfl ?_
    walk_at "rr"
    walk_at "nx"
    refine r_yes rfl ?_
    walk_at "rr"
    match ss, hsl with
    | [k0, k1x, k2x], _ =>
      obtain ⟨x0, ys, rfl, g0, ts2⟩ := TDs.cons_inv (show TDs H1 svs [kd (sh k0), kd (sh k1x), kd (sh k2x)] from ts1)
      obtain ⟨x1, ys, rfl, g1, ts2⟩ := ts2.cons_inv
      obtain ⟨x2, ys, rfl, g2, ts2⟩ := ts2.cons_inv
      cases ts2.nil_inv
      refine r_ixL s1 0 rfl ?_
      walk_at "rr"
      refine ⟨by simp, fun p2 H2 k2 n2 e2 => ?_⟩
      walk_at "rr"
      refine r_ixL (k2.at s1 ni0) 1 rfl ?_
      refine ⟨by simp, fun p3 H3 k3 n3 e3 => ?_⟩
      walk_at "rr"
      refine r_ixL ((k2.trans k3).at s1 ni0) 2 rfl ?_
      refine ⟨by simp, fun p4 H4 k4 n4 e4 => ?_⟩
      walk_at "rr"
      refine ⟨by simp, fun p5 H5 k5 n5 e5 => ?_⟩
      walk_at "rr"
      have k15 := k2.trans (k3.trans (k4.trans k5))
      refine q p5 H5 (k1'.trans (k15.mono (by simp))) ((k1.trans (k2.trans (k3.trans k4))).free n5) ⟨_, e5, .cons ?_ (.cons ?_ (.cons ?_ .nil))⟩ (k15.at c1 ni0)
      · exact TD.mk ((k3.trans (k4.trans k5)).atT e2) (.cons (g0.mono k15) (.cons (.str _) .nil))
      · exact TD.mk ((k4.trans k5).atT e3) (.cons (ho1.mono k15) (.cons (g1.mono k15) .nil))
      · exact TD.mk (k5.atT e4) (.cons (ho1.mono k15) (.cons (g2.mono k15) .nil))
  | lt p x a b =>
    rw [tr_lt] at hv1
    walk_at "nx"
    walk_at "nx"
    walk_at "wn"
    refine r_no rfl ?_
    walk_at "rr"
    walk_at "nx"
    walk_at "nx"
    refine r_yes rfl ?_
    walk_at "rr"
    obtain ⟨ki, hki⟩ := hi
    match ss, hsl with
    | [k0, k1x], _ =>
      obtain ⟨x0, ys, rfl, g0, ts2⟩ := TDs.cons_inv (show TDs H1 svs [kd (sh k0), kd (sh k1x)] from ts1)
      obtain ⟨x1, ys, rfl, g1, ts2⟩ := ts2.cons_inv
      cases ts2.nil_inv
      refine r_ix_str hv1 2 rfl ?_
      walk_at "rr"
      refine r_nr_get (I'.mono0 k1) (k := sh ki) (by unfold shE; rw [hki]; rfl) fun iv hiv => ?_
      walk_at "rr"
      refine r_ixL s1 0 rfl ?_
      refine ⟨by simp, fun p2 H2 k2 n2 e2 => ?_⟩
      walk_at "rr"
      refine r_ixL (k2.at s1 ni0) 1 rfl ?_
      refine ⟨by simp, fun p3 H3 k3 n3 e3 => ?_⟩
      walk_at "rr"
      refine ⟨by simp, fun p5 H5 k5 n5 e5 => ?_⟩
      walk_at "rr"
      have e : prsP tb (.lt p x a b) o [k0, k1x] near inner c = ([(ki, k0), (o, k1x)], c) := by simp [prsP, hki]
      rw [e] at q
      have k15 := k2.trans (k3.trans k5)
      refine q p5 H5 (k1'.trans (k15.mono (by simp))) ((k1.trans (k2.trans k3)).free n5) ⟨_, e5, .cons ?_ (.cons ?_ .nil)⟩ (k15.at c1 ni0)
      · exact TD.mk ((k3.trans k5).atT e2) (.cons (hiv.mono k15) (.cons (g0.mono k15) .nil))
      · exact TD.mk (k5.atT e3) (.cons (ho1.mono k15) (.cons (g1.mono k15) .nil))
  | cs p w' e h t b =>
    rw [tr_cs] at hv1
    walk_at "nx"
    walk_at "nx"
    walk_at "wn"
    refine r_no rfl ?_
    walk_at "rr"
    walk_at "nx"
    walk_at "nx"
    walk_at "nx"
    refine r_yes rfl ?_
    walk_at "rr"
    obtain ⟨⟨kh, hkh⟩, kt, hkt⟩ := hi
    match ss, hsl with
    | [k0, k1x, k2x], _ =>
      obtain ⟨x0, ys, rfl, g0, ts2⟩ := TDs.cons_inv (show TDs H1 svs [kd (sh k0), kd (sh k1x), kd (sh k2x)] from ts1)
      obtain ⟨x1, ys, rfl, g1, ts2⟩ := ts2.cons_inv
      obtain ⟨x2, ys, rfl, g2, ts2⟩ := ts2.cons_inv
      cases ts2.nil_inv
      refine r_ixL s1 0 rfl ?_
      walk_at "rr"
      refine r_ix_str hv1 4 rfl ?_
      walk_at "rr"
      refine r_nr_get (I'.mono0 k1) (k := sh kh) (by unfold shE; rw [hkh]; rfl) fun iv hiv => ?_
      refine ⟨by simp, fun p2 H2 k2 n2 e2 => ?_⟩
      refine ⟨by simp, fun p3 H3 k3 n3 e3 => ?_⟩
      walk_at "rr"
      refine r_ix_str ((hv1.mono k2).mono k3) 5 rfl ?_
      walk_at "rr"
      refine r_nr_get (((I'.mono0 k1).mono0 k2).mono0 k3) (k := sh kt) (by unfold shE; rw [hkt]; rfl) fun jv hjv => ?_
      walk_at "rr"
      refine r_ixL ((k2.trans k3).at s1 ni0) 0 rfl ?_
      refine ⟨by simp, fun p4 H4 k4 n4 e4 => ?_⟩
      walk_at "rr"
      refine r_ixL ((k2.trans (k3.trans k4)).at s1 ni0) 1 rfl ?_
      refine ⟨by simp, fun p5 H5 k5 n5 e5 => ?_⟩
      walk_at "rr"
      refine r_ixL ((k2.trans (k3.trans (k4.trans k5))).at s1 ni0) 2 rfl ?_
      refine ⟨by simp, fun p6 H6 k6 n6 e6 => ?_⟩
      walk_at "rr"
      refine ⟨by simp, fun p7 H7 k7 n7 e7 => ?_⟩
      walk_at "rr"
      have ee : prsP tb (.cs p w' e h t b) o [k0, k1x, k2x] near inner c = ([(k0, .lst kh), (kt, k0), (o, k1x), (o, k2x)], c) := by simp [prsP, hkh, hkt]
      rw [ee] at q
      have k17 := k2.trans (k3.trans (k4.trans (k5.trans (k6.trans k7))))
      have k37 := k4.trans (k5.trans (k6.trans k7))
      refine q p7 H7 (k1'.trans (k17.mono (by simp))) ((k1.trans (k2.trans (k3.trans (k4.trans (k5.trans k6))))).free n7) ⟨_, e7, .cons ?_ (.cons ?_ (.cons ?_ (.cons ?_ .nil)))⟩ (k17.at c1 ni0)
      · exact TD.mk (k37.atT e3) (.cons (g0.mono k17) (.cons (TD.mk ((k3.trans k37).atT e2) (.cons (.str _) (.cons (hiv.mono k17) .nil))) .nil))
      · exact TD.mk ((k5.trans (k6.trans k7)).atT e4) (.cons (hjv.mono k37) (.cons (g0.mono k17) .nil))
      · exact TD.mk ((k6.trans k7).atT e5) (.cons (ho1.mono k17) (.cons (g1.mono k17) .nil))
      · exact TD.mk (k7.atT e6) (.cons (ho1.mono k17) (.cons (g2.mono k17) .nil))
end
section
variable {P : Program} {w : World} {K : PySem.W.Frag} {mg : Str → Option Value} {base : Heap}
theorem HtAt.sub {H : Hp} {M M' : List Addr} {d : Addr} {tb : Tab'} (h : HtAt H M d tb) (s : ∀ b ∈ M', b ∈ M) : HtAt H M' d tb := by
  obtain ⟨kvs, h1, h2⟩ := h
  refine ⟨kvs, h1, fun x => ?_⟩
  have h2 := h2 x
  split
  · rename_i e
    rw [e] at h2
    exact h2
  · rename_i ks kk e
    rw [e] at h2
    obtain ⟨p, q, vs, v, g1, g2, g3, g4, g5, g6⟩ := h2
    exact ⟨p, q, vs, v, g1, g2, g3, fun z => g4 (s q z), g5, g6⟩
theorem HtAt.add {H : Hp} {M : List Addr} {d p : Addr} {tb : Tab'} (h : HtAt H M d tb) (n : H p = none) : HtAt H (M ++ [p]) d tb := by
  obtain ⟨kvs, h1, h2⟩ := h
  refine ⟨kvs, h1, fun x => ?_⟩
  have h2 := h2 x
  split
  · rename_i e
    rw [e] at h2
    exact h2
  · rename_i ks kk e
    rw [e] at h2
    obtain ⟨p, q, vs, v, g1, g2, g3, g4, g5, g6⟩ := h2
    refine ⟨p, q, vs, v, g1, g2, g3, fun z => ?_, g5, g6⟩
    rcases List.mem_append.mp z with z | z
    · exact g4 z
    · rw [List.mem_singleton.mp z, n] at g3
      cases g3
def lastB (t : Tree) (i : Nat) : Bool := decide (i + 1 = t.subs.length) && decide (t.word ∈ ([("let" : Str), "case"] : List Str))
theorem word_lc {t : Tree} : t.word ∈ ([("let" : Str), "case"] : List Str) ↔ (∃ p x a b, t = .lt p x a b) ∨ ∃ p w e h x b, t = .cs p w e h x b := by
  constructor
  · intro h
    cases t with
    | lt p x a b => exact .inl ⟨_, _, _, _, rfl⟩
    | cs p w e h x b => exact .inr ⟨_, _, _, _, _, _, rfl⟩
    | num p i => exact absurd (show (("num" : Str)) ∈ ([("let" : Str), "case"] : List Str) from h) (by decide +kernel)
    | nil p => exact absurd (show (("nil" : Str)) ∈ ([("let" : Str), "case"] : List Str) from h) (by decide +kernel)
    | use p x as => exact absurd (show (("use" : Str)) ∈ ([("let" : Str), "case"] : List Str) from h) (by decide +kernel)
    | op p s l r => exact absurd (show (("op" : Str)) ∈ ([("let" : Str), "case"] : List Str) from h) (by decide +kernel)
    | ite p x y z => exact absurd (show (("if" : Str)) ∈ ([("let" : Str), "case"] : List Str) from h) (by decide +kernel)
  · rintro (⟨_, _, _, _, rfl⟩ | ⟨_, _, _, _, _, _, rfl⟩) <;> simp [Tree.word]
theorem lastB_no {t : Tree} {i : Nat} (h1 : ∀ p x a b, t ≠ .lt p x a b) (h2 : ∀ p w e h x b, t ≠ .cs p w e h x b) : lastB t i = false := by
  unfold lastB
  have : ¬ t.word ∈ ([("let" : Str), "case"] : List Str) := fun h => by
    rcases word_lc.mp h with ⟨_, _, _, _, e⟩ | ⟨_, _, _, _, _, _, e⟩
    · exact h1 _ _ _ _ e
    · exact h2 _ _ _ _ _ _ e
  rw [decide_eq_false this, Bool.and_false]
/-- the names that stand within, and what they are -/
def EnvOf (near : Env') (nls : List Str) : Prop := ∀ x, x ∈ nls ↔ (near x).isSome = true
theorem EnvOf.put {near : Env'} {nls : List Str} (h : EnvOf near nls) (x : Str) (k : Kd) : EnvOf (near.put x k) (nls ++ [x]) := fun y => by
  rw [List.mem_append, h y, List.mem_singleton]
  unfold Env'.put
  by_cases e : y = x <;> simp [e]
theorem scopP_at {ar : Str → Option Nat} {t : Tree} {near : Env'} {nls : List Str} {c i : Nat} {s : Tree} (he : EnvOf near nls) (sn : Snd ar nls t) (h : t.subs[i]? = some s) :
    ∃ nls', (scopP t near (innerP t near c).1)[i]? = some (s, if lastB t i = true then (innerP t near c).1 else near) ∧ Snd ar nls' s ∧ EnvOf (if lastB t i = true then (innerP t near c).1 else near) nls' := by
  have plain : (∀ p x a b, t ≠ .lt p x a b) → (∀ p w e h x b, t ≠ .cs p w e h x b) → scopP t near (innerP t near c).1 = t.subs.map (fun s => (s, near)) → scop t nls = t.subs.map (fun s => (s, nls)) →
      ∃ nls', (scopP t near (innerP t near c).1)[i]? = some (s, if lastB t i = true then (innerP t near c).1 else near) ∧ Snd ar nls' s ∧ EnvOf (if lastB t i = true then (innerP t near c).1 else near) nls' := fun h1 h2 h3 h4 => by
    rw [lastB_no h1 h2, h3, List.getElem?_map, h]
    refine ⟨nls, rfl, sn.sub (q := (s, nls)) ?_, he⟩
    rw [h4]
    exact List.mem_map_of_mem (List.mem_of_getElem? h)
  cases t with
  | num p i => exact plain (by simp) (by simp) rfl rfl
  | nil p => exact plain (by simp) (by simp) rfl rfl
  | use p x as => exact plain (by simp) (by simp) rfl rfl
  | op p s l r => exact plain (by simp) (by simp) rfl rfl
  | ite p x y z => exact plain (by simp) (by simp) rfl rfl
  | lt p x a b =>
    match i, h with
    | 0, h =>
      cases h
      exact ⟨nls, rfl, sn.sub (q := (s, nls)) (by simp [scop]), he⟩
    | 1, h =>
      cases h
      have e : lastB (.lt p x a s) 1 = true := by simp [lastB, Tree.subs, Tree.word]
      rw [e]
      exact ⟨nls ++ [x], rfl, sn.sub (q := (s, nls ++ [x])) (by simp [scop]), he.put x _⟩
  | cs p w e h' x b =>
    match i, h with
    | 0, h =>
      cases h
      exact ⟨nls, rfl, sn.sub (q := (s, nls)) (by simp [scop]), he⟩
    | 1, h =>
      cases h
      exact ⟨nls, rfl, sn.sub (q := (s, nls)) (by simp [scop]), he⟩
    | 2, h =>
      cases h
      have e : lastB (.cs p w e h' x s) 2 = true := by simp [lastB, Tree.subs, Tree.word]
      rw [e]
      refine ⟨nls ++ [h', x], rfl, sn.sub (q := (s, nls ++ [h', x])) (by simp [scop]), ?_⟩
      have := (he.put h' (an c)).put x (an (c + 1))
      rwa [List.append_assoc] at this
theorem scopP_len (t : Tree) (near inner : Env') : (scopP t near inner).length = t.subs.length := by
  rw [← scopP_subs t near inner, List.length_map]
theorem hereE_of {ar : Str → Option Nat} {tb : Tab'} {near : Env'} {nls : List Str} {t : Tree} (ha : ∀ x, ar x = (tb x).map fun p => p.1.length) (he : EnvOf near nls) (sn : here ar nls t) : hereE tb near t := by
  cases t with
  | use p x as =>
    rcases sn with ⟨h1, h2⟩ | ⟨h1, h2⟩
    · obtain ⟨k, hk⟩ := Option.isSome_iff_exists.mp ((he x).mp h1)
      exact .inl ⟨k, hk, h2⟩
    · refine .inr ⟨?_, ?_⟩
      · cases hn : near x with
        | none => rfl
        | some k => exact absurd ((he x).mpr (by rw [hn]; rfl)) h1
      · rw [ha] at h2
        obtain ⟨q, hq, hl⟩ := Option.map_eq_some_iff.mp h2
        exact ⟨q.1, q.2, hq, hl⟩
  | cs p w e h t b => exact sn
  | _ => trivial
theorem hereI_of (t : Tree) (near : Env') (c : Nat) : hereI (innerP t near c).1 t := by
  cases t with
  | lt p x a b => exact ⟨_, put_at _ _ _⟩
  | cs p w e h t b =>
    refine ⟨?_, _, put_at _ _ _⟩
    by_cases e : h = t
    · subst e
      exact ⟨_, put_at _ _ _⟩
    · exact ⟨an c, by show ((near.put h (an c)).put t (an (c + 1))) h = _; rw [put_ne _ _ e, put_at]⟩
  | _ => trivial
theorem genQs_len (tb : Tab') (n : Nat) : ∀ (qs : List (Tree × Env')) (c : Nat), (genQs (gen tb n) qs c).1.length ≤ 6 * szs (qs.map Prod.fst)
  | [], c => by simp [genQs]
  | q :: qs, c => by
    have h1 := gen_len tb n q.1 q.2 c
    have h2 := genQs_len tb n qs (gen tb n q.1 q.2 c).2
    simp only [genQs, szs, List.map_cons, List.length_append]
    omega
def sp_law_demand (n : Nat) : Sp := fun vs H Q _ => ∃ (v : V) (nd hd l cl : Addr) (t : Tree) (near : Env') (nl : Nat) (tb : Tab') (rs : List Row) (c : Nat) (ar : Str → Option Nat) (nls : List Str), vs = [v, .ref nd, .ref hd, .ref l, .ref cl] ∧ TD H v (tr t) ∧ NrAt H nd (shE near) nl ∧ HtAt H [l, cl] hd (shT tb) ∧ RwAt H l rs ∧ H cl = some (.lst [.int (c : Int)]) ∧ l ≠ cl ∧
  Dep n t ∧ AllT okN t ∧ Snd ar nls t ∧ (∀ x, ar x = (tb x).map fun p => p.1.length) ∧ EnvOf near nls ∧ rs.length + 6 * sz t ≤ 800 ∧ nl + 3 * n ≤ 900 ∧
  ∀ v' H' rs', Kp [l, cl] H H' → RwAt H' l (rs ++ rs') → SameR rs' ((gen tb n t near c).1.map shR) → H' cl = some (.lst [.int (((gen tb n t near c).2 : Nat) : Int)]) → TD H' v' (kd (an (c + 1))) → Q v' H'
theorem sc__law_demand : FnScope ["tree", "near", "heads", "rows", "count", "own", "place", "word", "inner", "subs", "some", "k", "last", "one", "other"] ["tree", "near", "heads", "rows", "count"] (defScope s__law_demand) := ⟨rfl, rfl, rfl, by decide +kernel, rfl, by decide +kernel, by decide +kernel⟩
theorem c_law_demand0 (T : Txt K mg) : Cal P w K mg base 4 "_law_demand" ["tree", "near", "heads", "rows", "count"] (sp_law_demand 0) := by
  obtain ⟨fd, F⟩ := T.F__law_demand
  have no : ∀ vs H Q E, ¬ sp_law_demand 0 vs H Q E := fun vs H Q E h => by
    obtain ⟨_, _, _, _, _, _, _, _, _, _, _, _, _, _, _, _, _, _, _, _, d, _⟩ := h
    cases d
  exact mk_cal F T.g__law_demand (fun _ _ _ _ _ _ us hl => match us, hl with | [_, _, _, _, _], _ => rfl) ⟨fun vs H Q E h => absurd h (no vs H Q E), fun A outer s H args us vs Q E _ _ _ _ h => absurd h (no vs H Q E)⟩
theorem c_law_demand1 {n : Nat} (T : Txt K mg) (C__law_new : Cal P w K mg base 1 "_law_new" ["count"] sp_law_new) (C__law_subs : Cal P w K mg base 1 "_law_subs" ["tree"] sp_subtrees) (C__law_pairs : Cal P w K mg base 2 "_law_pairs" ["tree", "own", "some", "near", "inner", "heads", "count"] sp_law_pairs)
    (C__law_demand : Cal P w K mg base (n + 4) "_law_demand" ["tree", "near", "heads", "rows", "count"] (sp_law_demand n)) : Cal P w K mg base (n + 5) "_law_demand" ["tree", "near", "heads", "rows", "count"] (sp_law_demand (n + 1)) := by
  obtain ⟨fd, F⟩ := T.F__law_demand
  refine mk_cal F T.g__law_demand (fun _ _ _ _ _ _ us hl => match us, hl with | [_, _, _, _, _], _ => rfl) (mk_ok F sc__law_demand (by walk_at "len") fun cdv A outer s H vs Q E hr h => ?_)
  obtain ⟨v, nd, hd, l, cl, t, near, nl, tb, rs, c, ar, nls, rfl, hv, N, HT, R, hc, lc, hdp, ok, sn, har, henv, hrs, hroom, q⟩ := h
  refine ⟨_, (pss_cons (ps_set (i := 5) sc__law_demand.nd rfl (by first | exact Or.inl rfl | exact Or.inr rfl) (pe_cal C__law_new hr (pa_cons (pv 4) pa_nil))) (pss_cons (ps_set (i := 6) sc__law_demand.nd rfl (by first | exact Or.inl rfl | exact Or.inr rfl) (pe_ix (ix_seqK (K := K) rfl) (pv 0) pe_int (fun _ _ => rfl))) (pss_cons (ps_set (i := 7) sc__law_demand.nd rfl (by first | exact Or.inl rfl | exact Or.inr rfl) (pe_ix (ix_seqK (K := K) rfl) (pv 0) pe_int (fun _ _ => rfl))) (pss_cons (ps_set (i := 8) sc__law_demand.nd rfl (by first | exact Or.inl rfl | exact Or.inr rfl) (pe_callTy call_dictOf (by rfl) T.b_dict (by decide +kernel) (pa_cons (pv 1) pa_nil))) (C8.pss_cut (ps_if (pt_cmpR (op_eqXK (K := K) hr rfl) (pv 7) pe_str (nomark _)) (pss_one (ps_dput (hu_of hr) (pv 8) (pe_ix (ix_seqK (K := K) rfl) (pv 0) pe_int (fun _ _ => rfl)) (pe_cal C__law_new hr (pa_cons (pv 4) pa_nil)) rfl)) pss_nil) (C8.pss_cut (ps_if (pt_cmpR (op_eqXK (K := K) hr rfl) (pv 7) pe_str (nomark _)) (pss_cons (ps_dput (hu_of hr) (pv 8) (pe_ix (ix_seqK (K := K) rfl) (pv 0) pe_int (fun _ _ => rfl)) (pe_cal C__law_new hr (pa_cons (pv 4) pa_nil)) rfl) (pss_one (ps_dput (hu_of hr) (pv 8) (pe_ix (ix_seqK (K := K) rfl) (pv 0) pe_int (fun _ _ => rfl)) (pe_cal C__law_new hr (pa_cons (pv 4) pa_nil)) rfl))) pss_nil) (pss_cons (ps_set (i := 9) sc__law_demand.nd rfl (by first | exact Or.inl rfl | exact Or.inr rfl) (pe_cal C__law_subs hr (pa_cons (pv 0) pa_nil))) (pss_cons (ps_set (i := 10) sc__law_demand.nd rfl (by first | exact Or.inl rfl | exact Or.inr rfl) (pe_lstK pa_nil)) (pss_cons (ps_for PassesOwn.never rfl (pi_range1 rfl T.b_range (pa_cons (pe_callB (call_lenKK (K := K) rfl) (by rfl) T.b_len PySem.boot_len (pa_cons (pv 9) pa_nil)) pa_nil)) (pg_name (i := 11) sc__law_demand.nd rfl (by first | exact Or.inl rfl | exact Or.inr rfl)) (C8.pss_cut (ps_set (i := 12) sc__law_demand.nd rfl (by first | exact Or.inl rfl | exact Or.inr rfl) (pe_and (pe_cmpR (op_eqXK (K := K) hr rfl) (pv 11) (pe_op op_sub (pe_callB (call_lenKK (K := K) rfl) (by rfl) T.b_len PySem.boot_len (pa_cons (pv 9) pa_nil)) pe_int) (nomark _)) (pe_one (pe_cmpR (op_in_seqK (K := K) rfl) (pv 7) (pe_tupK (pa_cons pe_str (pa_cons pe_str pa_nil))) rfl)))) (pss_one (ps_expr (pe_bm PySem.F.plainAttrs_list PySem.F.slot_list_append PySem.F.type_list_append mt_append (pv 10) (pa_cons (pe_cal C__law_demand hr (pa_cons (pe_ix (ix_seqK (K := K) rfl) (pv 9) (pv 11) (fun _ _ => rfl)) (pa_cons (pe_ifExp (pt_val (pv 12)) (pv 8) (pv 1)) (pa_cons (pv 2) (pa_cons (pv 3) (pa_cons (pv 4) pa_nil)))))) pa_nil)))))) (pss_cons (ps_for PassesOwn.never rfl (pi_list (pe_cal C__law_pairs hr (pa_cons (pv 0) (pa_cons (pv 5) (pa_cons (pv 10) (pa_cons (pv 1) (pa_cons (pv 8) (pa_cons (pv 2) (pa_cons (pv 4) pa_nil))))))))) (pg_tup rfl (pgs_cons (pg_name (i := 13) sc__law_demand.nd rfl (by first | exact Or.inl rfl | exact Or.inr rfl)) (pgs_cons (pg_name (i := 14) sc__law_demand.nd rfl (by first | exact Or.inl rfl | exact Or.inr rfl)) pgs_nil))) (pss_one (ps_expr (pe_bm PySem.F.plainAttrs_list PySem.F.slot_list_append PySem.F.type_list_append mt_append (pv 3) (pa_cons (pe_tupK (pa_cons (pv 6) (pa_cons (pv 13) (pa_cons (pv 14) pa_nil)))) pa_nil))))) (pss_one (ps_ret (pv 5))))))))))))), ?_⟩
  have hv2 := hv
  rw [tr_eq] at hv2
  have hsz := szs_eq t
  have few := subs_few ok.here
  obtain ⟨kvn, hn1, hn2, _⟩ := id N
  obtain ⟨kvh, ht1, _⟩ := id HT
  obtain ⟨rv, hr1, _⟩ := id R
  have ndM : nd ∉ [l, cl] := ni2 (ne_kind hn1 hr1 (by simp)) (ne_kind hn1 hc (by simp))
  have hdM : hd ∉ [l, cl] := ni2 (ne_kind ht1 hr1 (by simp)) (ne_kind ht1 hc (by simp))
  walk_at "rr"
  refine ⟨cl, c, rfl, hc, fun ov H1 k1 e1 tov => ?_⟩
  walk_at "rr"
  refine r_ix (hv2.mono k1) 1 rfl fun plv tpl => ?_
  walk_at "rr"
  refine r_ix_str (hv2.mono k1) 0 rfl ?_
  walk_at "rr"
  have ndc : nd ∉ [cl] := fun h => ndM (by simp at h; simp [h])
  have hn11 := k1.at hn1 ndc
  refine ⟨nd, kvn, rfl, hn11, fun di H2 k2 n2 e2 => ?_⟩
  have NI2 := (N.mono k1 (by rintro b hb o ho kvs rfl; simp at hb; rw [hb, hc] at ho; cases ho)).copy hn11 k2 e2
  have k02 : Kp [cl] H H2 := k1.trans (k2.mono (by simp))
  have diN : H di = none := k1.free n2
  have dic : di ≠ cl := Ne.symm (ne_of_none e1 n2)
  have ec2 := k2.at e1 ni0
  walk_at "rr"
  have cm : ∀ b ∈ [cl], b ∈ [l, cl] := fun b hb => by simp at hb ⊢; simp [hb]
  refine r_cut (fun σ H' => ∃ (e : Env') (m : Nat), σ = [some v, some (.ref nd), some (.ref hd), some (.ref l), some (.ref cl), some ov, some plv, some (.str t.word), some (.ref di), none, none, none, none, none, none] ∧ Kp [cl] H H' ∧ NrAt H' di (shE e) (nl + 1) ∧ H' cl = some (.lst [.int (m : Int)]) ∧ (TD H' ov (kd (an (c + 1))) ∧ TD H' plv (pl t.place)) ∧
    ((∃ p x a b, t = .lt p x a b ∧ e = near.put x (an (c + 1)) ∧ m = c + 2) ∨ ((∀ p x a b, t ≠ .lt p x a b) ∧ e = near ∧ m = c + 1))) ?_ ?_
  · walk_at "rr"
    by_cases hw : t.word = "let"
    · refine r_yes (decide_eq_true hw) ?_
      cases t <;> first | (exfalso; revert hw; simp only [Tree.word]; decide +kernel) | skip
      rename_i p x a b
      rw [tr_lt] at hv
      walk_at "rr"
      refine ⟨cl, c + 1, rfl, ec2, fun xv H3 k3 e3 t3 => ?_⟩
      have k03 : Kp [cl] H H3 := k02.trans k3
      walk_at "rr"
      refine r_ix_str (hv.mono k03) 2 rfl ?_
      have hd3 := k3.at e2 (ni1 dic)
      refine r_dput_s hd3 (by omega) fun H4 k4 e4 => ?_
      walk_at "rr"
      have N3 : NrAt H3 di (shE near) nl := NI2.monoD k3 dic
      refine ⟨near.put x (an (c + 1)), c + 2, rfl, k03.fresh diN k4, ?_, k4.at e3 (ni1 (Ne.symm dic)), ⟨((tov.mono k2).mono k3).mono k4, ((tpl.mono k2).mono k3).mono k4⟩, .inl ⟨p, x, a, b, rfl, rfl, rfl⟩⟩
      rw [shE_put]
      refine N3.put hd3 ?_ k4 e4
      rw [sh_an]
      exact t3
    · refine r_no (decide_eq_false hw) ?_
      walk_at "rr"
      obtain ⟨kvn2, g1, g2, g3⟩ := NI2
      exact ⟨near, c + 1, rfl, k02, ⟨kvn2, g1, by omega, g3⟩, ec2, ⟨tov.mono k2, tpl.mono k2⟩, .inr ⟨fun p x a b e => hw (by rw [e]; rfl), rfl, rfl⟩⟩
  rintro σ H3 ⟨e, m, rfl, k03, NI3, ec3, ⟨tov3, tpl3⟩, hem⟩
  walk_at "rr"
  refine r_cut (fun σ H' => σ = [some v, some (.ref nd), some (.ref hd), some (.ref l), some (.ref cl), some ov, some plv, some (.str t.word), some (.ref di), none, none, none, none, none, none] ∧ Kp [cl] H H' ∧ NrAt H' di (shE (innerP t near (c + 1)).1) (nl + 3) ∧ H' cl = some (.lst [.int (((innerP t near (c + 1)).2 : Nat) : Int)]) ∧ TD H' ov (kd (an (c + 1))) ∧ TD H' plv (pl t.place)) ?_ ?_
  · walk_at "rr"
    by_cases hw : t.word = "case"
    · refine r_yes (decide_eq_true hw) ?_
      cases t <;> first | (exfalso; revert hw; simp only [Tree.word]; decide +kernel) | skip
      rename_i p w' e' x y b
      rcases hem with ⟨_, _, _, _, z, _⟩ | ⟨_, rfl, rfl⟩
      · cases z
      rw [tr_cs] at hv
      obtain ⟨kv3, hd3, hl3, _⟩ := id NI3
      walk_at "rr"
      refine ⟨cl, c + 1, rfl, ec3, fun xv H4 k4 e4 t4 => ?_⟩
      have k04 : Kp [cl] H H4 := k03.trans k4
      walk_at "rr"
      refine r_ix_str (hv.mono k04) 4 rfl ?_
      have hd4 := k4.at hd3 (ni1 dic)
      refine r_dput_s hd4 (by omega) fun H5 k5 e5 => ?_
      have N5 := (NI3.monoD k4 dic).put (x := x) (k := sh (an (c + 1))) hd4 (by rw [sh_an]; exact t4) k5 e5
      have k05 : Kp [cl] H H5 := (k04.fresh diN k5)
      walk_at "rr"
      refine ⟨cl, c + 2, rfl, k5.at e4 (ni1 (Ne.symm dic)), fun yv H6 k6 e6 t6 => ?_⟩
      have k06 : Kp [cl] H H6 := k05.trans k6
      walk_at "rr"
      refine r_ix_str (hv.mono k06) 5 rfl ?_
      have hd6 := k6.at e5 (ni1 dic)
      refine r_dput_s hd6 (Nat.le_trans (length_putK _ _ _) (by omega)) fun H7 k7 e7 => ?_
      have N7 := (N5.monoD k6 dic).put (x := y) (k := sh (an (c + 2))) hd6 (by rw [sh_an]; exact t6) k7 e7
      walk_at "rr"
      refine ⟨rfl, k06.fresh diN k7, ?_, k7.at e6 (ni1 (Ne.symm dic)), (((tov3.mono k4).mono k5).mono k6).mono k7, (((tpl3.mono k4).mono k5).mono k6).mono k7⟩
      show NrAt H7 di (shE ((e.put x (an (c + 1))).put y (an (c + 2)))) (nl + 3)
      rw [shE_put, shE_put]
      obtain ⟨kv, g1, g2, g3⟩ := N7
      exact ⟨kv, g1, by omega, g3⟩
    · refine r_no (decide_eq_false hw) ?_
      walk_at "rr"
      obtain ⟨kv, g1, g2, g3⟩ := NI3
      have ei : innerP t near (c + 1) = (e, m) := by
        rcases hem with ⟨p, x, a, b, rfl, rfl, rfl⟩ | ⟨h1, rfl, rfl⟩
        · rfl
        · cases t with
          | lt p x a b => exact absurd rfl (h1 p x a b)
          | cs p w e h t b => exact absurd rfl hw
          | _ => rfl
      rw [ei]
      exact ⟨rfl, k03, ⟨kv, g1, by omega, g3⟩, ec3, tov3, tpl3⟩
  rintro σ H4 ⟨rfl, k04, NI4, ec4, tov4, tpl4⟩
  clear NI3 ec3 hem k03 NI2 ec2 k02 e2 k2
  obtain ⟨inner, hinner⟩ : ∃ e, e = (innerP t near (c + 1)).1 := ⟨_, rfl⟩
  obtain ⟨c0, hc0⟩ : ∃ m, m = (innerP t near (c + 1)).2 := ⟨_, rfl⟩
  obtain ⟨qs, hqs⟩ : ∃ z, z = scopP t near (innerP t near (c + 1)).1 := ⟨_, rfl⟩
  have gs := gen_same tb n t near c (hereE_of har henv sn.here)
  have hI := hereI_of t near (c + 1)
  have hat : ∀ {i : Nat} {s : Tree}, t.subs[i]? = some s → ∃ nls', qs[i]? = some (s, if lastB t i = true then inner else near) ∧ Snd ar nls' s ∧ EnvOf (if lastB t i = true then inner else near) nls' := fun h => by
    have := scopP_at (c := c + 1) henv sn h
    rw [← hinner] at this
    rw [hqs, ← hinner]
    exact this
  have hql : qs.length = t.subs.length := by rw [hqs]; exact scopP_len _ _ _
  have hqf : qs.map Prod.fst = t.subs := by rw [hqs]; exact scopP_subs _ _ _
  rw [← hqs, ← hc0, ← hinner] at gs
  rw [← hinner] at NI4 hI
  rw [← hc0] at ec4
  clear hqs hc0 hinner
  walk_at "rr"
  refine ⟨v, t, rfl, hv.mono k04, fun sl ys H5 k5 n5 e5 t5 => ?_⟩
  have hlen : ys.length = t.subs.length := by rw [t5.1, List.length_map]
  walk_at "rr"
  refine ⟨by simp, fun so H6 k6 n6 e6 => ?_⟩
  walk_at "rr"
  have e56 := k6.at e5 ni0
  refine r_len_l e56 ?_
  refine ⟨_, rfl, by omega, by omega, ?_⟩
  rw [Int.toNat_natCast, hlen]
  have k46 := k5.trans k6
  have k06 : Kp [cl] H H6 := k04.trans (k46.mono (by simp))
  have soN : H so = none := (k04.trans (k5.mono (by simp))).free n6
  have ec6 := k46.at ec4 ni0
  have lso : l ≠ so := ne_of_none hr1 soN
  have cso : cl ≠ so := ne_of_none hc soN
  have soM : so ∉ [l, cl] := ni2 (Ne.symm lso) (Ne.symm cso)
  have sso : sl ≠ so := ne_of_none e5 n6
  have slM : sl ∉ [l, cl, so] := by
    refine ni3 ?_ ?_ sso
    · have : H4 l ≠ none := by
        obtain ⟨o', h'⟩ := k04.there l _ hr1
        rw [h']; simp
      exact fun z => this (by rw [← z]; exact n5)
    · exact Ne.symm (ne_of_none ec4 n5)
  have hdM3 : hd ∉ [l, cl, so] := ni3 (fun z => hdM (by simp [z])) (fun z => hdM (by simp [z])) (ne_of_none ht1 soN)
  have ndM3 : nd ∉ [l, cl, so] := ni3 (fun z => ndM (by simp [z])) (fun z => ndM (by simp [z])) (ne_of_none hn1 soN)
  obtain ⟨kvi, hi4, _⟩ := id NI4
  have diM3 : di ∉ [l, cl, so] := by
    refine ni3 ?_ dic (ne_of_none (k5.at hi4 ni0) n6)
    exact Ne.symm (ne_of_none hr1 diN)
  have R6 := R.mono k06 (ni1 lc)
  have N6 := (NrAt.monoM N k06 ndc)
  have NI6 := NrAt.monoM NI4 k46 ni0
  have HT6 : HtAt H6 ([l, cl] ++ [so]) hd (shT tb) := ((HT.mono (k04.trans (k5.mono (by simp))) cm (fun z => hdM (cm _ z))).add n6).mono k6 (by simp) ni0
  have t56 := t5.mono k6
  have hov : TD H6 ov (kd (sh (an c))) := by
    rw [sh_an]
    exact tov4.mono k46
  have hpl : TD H6 plv (pl t.place) := tpl4.mono k46
  refine forW (walk_rng (n := t.subs.length)) (fun i σ H' => ∃ o11 o12 acc rsi, σ = [some v, some (.ref nd), some (.ref hd), some (.ref l), some (.ref cl), some ov, some plv, some (.str t.word), some (.ref di), some (.ref sl), some (.ref so), o11, o12, none, none] ∧ Kp [l, cl, so] H6 H' ∧ RwAt H' l (rs ++ rsi) ∧ SameR rsi ((genQs (gen tb n) (qs.take i) c0).1.map shR) ∧
      H' so = some (.lst acc) ∧ TDs H' acc (((genQs (gen tb n) (qs.take i) c0).2.1.map sh).map kd) ∧ H' cl = some (.lst [.int (((genQs (gen tb n) (qs.take i) c0).2.2 : Nat) : Int)]))
    ⟨none, none, [], [], rfl, Kp.refl _ _, by rw [List.append_nil]; exact R6, by simp [genQs]; exact SameR.refl _, e6, by simp [genQs, TDs.nil], by simp [genQs]; exact ec6⟩ (fun _ _ _ _ _ => trivial) ?_ ?_
  · rintro i z σ H0 H7 hi ⟨o11, o12, acc, rsi, rfl, k7, R7, S7, a7, t7, c7⟩ ⟨rfl, rfl⟩
    have his : t.subs[i]? = some t.subs[i] := List.getElem?_eq_getElem hi
    have hs := List.getElem_mem hi
    generalize t.subs[i] = s at his hs
    obtain ⟨nls', hq, hsn, hen⟩ := hat his
    have sl7 := k7.at e56 slM
    walk_at "rr"
    refine r_cut (fun σ H' => σ = [some v, some (.ref nd), some (.ref hd), some (.ref l), some (.ref cl), some ov, some plv, some (.str t.word), some (.ref di), some (.ref sl), some (.ref so), some (.int (i : Int)), some (.bl (lastB t i)), none, none] ∧ Kp [] H7 H') ?_ ?_
    · walk_at "rr"
      refine r_len_l sl7 ?_
      walk_at "rr"
      by_cases hl : i + 1 = t.subs.length
      · refine r_yes (decide_eq_true (by omega)) ?_
        walk_at "rr"
        refine ⟨by simp, fun p8 H8 k8 n8 e8 => ?_⟩
        refine r_in_sq (ns := [("let" : Str), "case"]) (SqT.of e8) ?_
        walk_at "rr"
        refine ⟨?_, k8⟩
        have : lastB t i = decide (t.word ∈ ([("let" : Str), "case"] : List Str)) := by simp [lastB, hl]
        rw [this]
        rfl
      · refine r_no (decide_eq_false (by omega)) ?_
        walk_at "rr"
        refine ⟨?_, Kp.refl _ _⟩
        have : lastB t i = false := by simp [lastB, hl]
        rw [this]
        rfl
    rintro σ H8 ⟨rfl, k8⟩
    have k68 : Kp [l, cl, so] H6 H8 := k7.trans (k8.mono (by simp))
    have pick : ∀ Q' : VK, (∀ ed, NrAt H8 ed (shE (if lastB t i = true then inner else near)) (nl + 3) → Q' (.ref ed) H8) →
        (if lastB t i = true then tVar 8 [some v, some (.ref nd), some (.ref hd), some (.ref l), some (.ref cl), some ov, some plv, some (.str t.word), some (.ref di), some (.ref sl), some (.ref so), some (.int (i : Int)), some (.bl (lastB t i)), none, none] H8 Q'
          else tVar 1 [some v, some (.ref nd), some (.ref hd), some (.ref l), some (.ref cl), some ov, some plv, some (.str t.word), some (.ref di), some (.ref sl), some (.ref so), some (.int (i : Int)), some (.bl (lastB t i)), none, none] H8 Q') := fun Q' h => by
      by_cases hB : lastB t i = true
      · rw [if_pos hB] at h ⊢
        exact ⟨_, rfl, h di (NrAt.monoM NI6 k68 diM3)⟩
      · rw [if_neg hB] at h ⊢
        obtain ⟨kv, g1, g2, g3⟩ := NrAt.monoM N6 k68 ndM3
        exact ⟨_, rfl, h nd ⟨kv, g1, by omega, g3⟩⟩
    have hsl := szs_take his
    have hgl : rsi.length ≤ 6 * szs (t.subs.take i) := by
      have := genQs_len tb n (qs.take i) c0
      rw [List.map_take, hqf] at this
      have := S7.len
      rw [List.length_map] at this
      omega
    have a8 := k8.at a7 ni0
    have hal : acc.length ≤ i := by
      have := t7.1
      rw [List.length_map, List.length_map, genQs_kinds, List.length_take] at this
      omega
    walk_at "rr"
    refine ⟨tyV_l a8, ?_⟩
    have ty : TD H8 (ys[i]'(by omega)) (tr s) := by
      refine ((t56.mono k68).2 i _ _ (List.getElem?_eq_getElem (by omega)) ?_)
      rw [List.getElem?_map, his]
      rfl
    walk_at "rr"
    refine r_ixL (k8.at sl7 ni0) i (List.getElem?_eq_getElem (by omega)) ?_
    walk_at "rr"
    refine pick _ fun ed Ned => ?_
    walk_at "rr"
    refine ⟨_, ed, hd, l, cl, s, _, nl + 3, tb, rs ++ rsi, _, ar, nls', rfl, ty, Ned, (HT6.mono k68 (by simp) hdM3).sub (by simp), R7.mono k8 ni0, k8.at c7 ni0, lc, hdp.sub hs, ok.sub hs, hsn, har, hen, by rw [List.length_append]; omega, by omega, fun v' H9 rs9 k9 R9 S9 c9 t9 => ?_⟩
    have a9 := k9.at a8 soM
    walk_at "rr"
    refine r_append a9 (by omega) ?_
    have kw : Kp [so] H9 (upd H9 so (.lst (acc ++ [v']))) := Kp.wr (by simp) a9 rfl
    have ew : (upd H9 so (.lst (acc ++ [v']))) so = some (.lst (acc ++ [v'])) := upd_same
    generalize upd H9 so (.lst (acc ++ [v'])) = H10 at kw ew
    walk_at "rr"
    have eq : qs.take (i + 1) = qs.take i ++ [(s, if lastB t i = true then inner else near)] := take_snoc2 hq
    rw [eq, genQs_snoc]
    refine ⟨_, _, acc ++ [v'], rsi ++ rs9, rfl, k68.trans ((k9.mono (by simp)).trans (kw.mono (by simp))), ?_, ?_, ew, ?_, kw.at c9 (ni1 cso)⟩
    · rw [← List.append_assoc]
      exact R9.mono kw (ni1 lso)
    · rw [List.map_append]
      exact S7.app S9
    · rw [List.map_append, List.map_append]
      refine ((((t7.mono k8).mono k9).mono kw)).snoc ?_
      show TD H10 v' (kd (sh (an _)))
      rw [sh_an]
      exact t9.mono kw
  · rintro σ H7 ⟨o11, o12, acc, rsq, rfl, k7, R7, S7, a7, t7, c7⟩
    rw [← hql, List.take_length] at S7 t7 c7
    walk_at "rr"
    have HT7 := HT6.mono k7 (by simp) hdM3
    refine ⟨v, ov, so, nd, di, hd, cl, t, an c, acc, _, near, inner, nl, nl + 3, tb, _, rfl, (hv.mono k06).mono k7, hov.mono k7, a7, t7, by rw [genQs_kinds, hql], few, NrAt.monoM N6 k7 ndM3, NrAt.monoM NI6 k7 diM3, HT7.sub (by simp), c7, hereE_of har henv sn.here, hI, fun pa H8 k8 n8 P8 c8 => ?_⟩
    obtain ⟨pvs, hp8, tp8⟩ := P8
    walk_at "rr"
    refine ⟨⟨_, SqL.of hp8⟩, ?_⟩
    obtain ⟨gs1, gs2⟩ := gs
    generalize (genQs (gen tb n) qs c0) = G at *
    generalize prsP tb t (an c) G.2.1 near inner G.2.2 = PP at *
    have glen := gs1.len
    have gl2 := gen_len tb (n + 1) t near c
    have sl7 := S7.len
    rw [List.length_append, List.length_map] at glen
    rw [List.length_map] at sl7
    have lpa : l ≠ pa := by
      obtain ⟨rv7, g, _⟩ := R7
      exact ne_of_none g n8
    have R8 := R7.mono k8 (ni1 lc)
    have pvl : pvs.length = PP.1.length := by rw [tp8.1, List.length_map, List.length_map]
    refine forW (walk_list (xs := pvs)) (fun j σ H' => ∃ o11 o12 o13 o14, σ = [some v, some (.ref nd), some (.ref hd), some (.ref l), some (.ref cl), some ov, some plv, some (.str t.word), some (.ref di), some (.ref sl), some (.ref so), o11, o12, o13, o14] ∧ Kp [l] H8 H' ∧ RwAt H' l (rs ++ (rsq ++ (((PP.1.take j).map shP).map fun q => (t.place, q.1, q.2)))))
      ⟨_, _, none, none, rfl, Kp.refl _ _, by simp; exact R8⟩ ?_ ?_ ?_
    · rintro j σ H' _ ⟨_, _, _, _, _, k, _⟩
      exact SqL.of (k.at hp8 (ni1 (Ne.symm lpa)))
    · rintro j x σ H9 H10 hj ⟨o11, o12, o13, o14, rfl, k9, R9⟩ ⟨rfl, hx⟩
      obtain ⟨q0, hq0, hjq, htq⟩ := tp8.map_get hx
      rw [List.getElem?_map] at hjq
      obtain ⟨q1, hjq1, rfl⟩ := Option.map_eq_some_iff.mp hjq
      obtain ⟨pp, w1, w2, rfl, hpp, hw1, hw2⟩ := (htq.mono k9).pr_inv
      refine r_gTup rfl hpp rfl ?_
      obtain ⟨rv9, g9, tr9⟩ := id R9
      have r9l : rv9.length ≤ 900 := by
        rw [tr9.1, List.length_map, List.length_append, List.length_append, List.length_map, List.length_map, List.length_take]
        omega
      walk_at "rr"
      refine ⟨tyV_l g9, ?_⟩
      walk_at "rr"
      refine ⟨by simp, fun p11 H11 k11 n11 e11 => ?_⟩
      walk_at "rr"
      have g11 := k11.at g9 ni0
      refine r_append g11 (by omega) ?_
      have kw : Kp [l] H11 (upd H11 l (.lst (rv9 ++ [.ref p11]))) := Kp.wr (by simp) g11 rfl
      have ew : (upd H11 l (.lst (rv9 ++ [.ref p11]))) l = some (.lst (rv9 ++ [.ref p11])) := upd_same
      generalize upd H11 l (.lst (rv9 ++ [.ref p11])) = H12 at kw ew
      walk_at "rr"
      refine ⟨_, _, _, _, rfl, k9.trans ((k11.mono (by simp)).trans kw), _, ew, ?_⟩
      have e : rs ++ (rsq ++ (((PP.1.take (j + 1)).map shP).map fun q => ((t.place, q.1, q.2) : Row))) = (rs ++ (rsq ++ (((PP.1.take j).map shP).map fun q => ((t.place, q.1, q.2) : Row)))) ++ [((t.place, sh q1.1, sh q1.2) : Row)] := by
        rw [take_snoc2 hjq1]
        simp [shP]
      rw [e, List.map_append]
      refine ((tr9.mono k11).mono kw).snoc ?_
      refine TD.mk (kw.atT e11) (TDs.mono kw (TDs.mono k11 (.cons ((hpl.mono (k7.trans (k8.mono (by simp)))).mono k9) (.cons hw1 (.cons hw2 .nil)))))
    · rintro σ H9 ⟨o11, o12, o13, o14, rfl, k9, R9⟩
      rw [pvl, List.take_length] at R9
      have k69 : Kp [l, cl, so] H6 H9 := k7.trans ((k8.mono (by simp)).trans (k9.mono (by simp)))
      walk_at "rr"
      refine q ov H9 (rsq ++ ((PP.1.map shP).map fun q => (t.place, q.1, q.2))) (((k06.mono (by simp)).trans k69).drop fun b hb => by simp at hb; rcases hb with hb | hb | hb <;> simp [hb, soN]) R9 ?_ ?_ ?_
      · have e : ((PP.1.map shP).map fun q => ((t.place, q.1, q.2) : Row)) = (PP.1.map fun q => ((t.place, q.1, q.2) : Row)).map shR := by
          rw [List.map_map, List.map_map]
          rfl
        have h1 := gs1.sh
        rw [List.map_append, ← e] at h1
        exact (S7.app (SameR.refl _)).trans h1
      · rw [← gs2]
        exact k9.at c8 (ni1 (Ne.symm lc))
      · rw [← sh_an]
        exact hov.mono k69
theorem c_law_demand (T : Txt K mg) (C__law_new : Cal P w K mg base 1 "_law_new" ["count"] sp_law_new) (C__law_subs : Cal P w K mg base 1 "_law_subs" ["tree"] sp_subtrees) (C__law_pairs : Cal P w K mg base 2 "_law_pairs" ["tree", "own", "some", "near", "inner", "heads", "count"] sp_law_pairs) : ∀ n, Cal P w K mg base (n + 4) "_law_demand" ["tree", "near", "heads", "rows", "count"] (sp_law_demand n)
  | 0 => c_law_demand0 T
  | n + 1 => c_law_demand1 T C__law_new C__law_subs C__law_pairs (c_law_demand T C__law_new C__law_subs C__law_pairs n)
end
section
variable {P : Program} {w : World} {K : PySem.W.Frag} {mg : Str → Option Value} {base : Heap}
theorem HtAt.put {H H2 : Hp} {M : List Addr} {d : Addr} {tb tb2 : Tab'} {kvs : List (Key × V)} {x : Str} {v : V} {p q : Addr} {vs : List V} {ks : List Kd} {k : Kd} (h : H d = some (.dK kvs)) (N : HtAt H M d tb) (hp : H p = some (.tup [.ref q, v])) (hq : H q = some (.lst vs)) (ql : q ∉ M) (t1 : TDs H vs (ks.map kd)) (t2 : TD H v (kd k))
    (kp : Kp [d] H H2) (h2 : H2 d = some (.dK (putK kvs (.inr x) (.ref p)))) (e2 : ∀ y, tb2 y = if y = x then some (ks, k) else tb y) : HtAt H2 M d tb2 := by
  obtain ⟨kvs', h1, h4⟩ := N
  rw [h] at h1
  cases h1
  refine ⟨_, h2, fun y => ?_⟩
  have h4 := h4 y
  rw [valV_put, e2 y]
  have dq : ∀ q' vs', H q' = some (.lst vs') → q' ∉ [d] := fun q' vs' hq' => ni1 (ne_kind hq' h (by simp))
  by_cases hy : y = x
  · rw [if_pos hy, if_pos (by rw [hy])]
    exact ⟨p, q, vs, v, rfl, kp.atT hp, kp.at hq (dq _ _ hq), ql, t1.mono kp, t2.mono kp⟩
  · rw [if_neg hy, if_neg (fun e => hy (Sum.inr.inj e))]
    split
    · rename_i e
      rw [e] at h4
      exact h4
    · rename_i ks' kk e
      rw [e] at h4
      obtain ⟨p', q', vs', v', g1, g2, g3, g4, g5, g6⟩ := h4
      exact ⟨p', q', vs', v', g1, kp.atT g2, kp.at g3 (dq _ _ g3), g4, g5.mono kp, g6.mono kp⟩
theorem shE_env (ps : List Str) (ks : List Kd) : shE (envOf ps ks) = envOf ps (ks.map sh) := by
  have : ∀ (ps : List Str) (ks : List Kd) (e : Env'), shE ((ps.zip ks).foldl (fun e q => e.put q.1 q.2) e) = (ps.zip (ks.map sh)).foldl (fun e q => e.put q.1 q.2) (shE e) := by
    intro ps
    induction ps with
    | nil => intro ks e; simp
    | cons p ps ih =>
      intro ks e
      cases ks with
      | nil => simp
      | cons k ks =>
        simp only [List.map_cons, List.zip_cons_cons, List.foldl_cons]
        rw [ih, shE_put]
  exact this ps ks _
def sp_law_demands : Sp := fun vs H Q _ => ∃ (v : V) (p : List Df), vs = [v] ∧ TD H v (.tuple (p.map df)) ∧ Sound p ∧ 6 * szP p ≤ 290 ∧
  ∀ a l x H' rs', Kp [] H H' → H' a = some (.tup [.ref l, x]) → RwAt H' l rs' → SameR rs' ((rsP p).map shR) → Q (.ref a) H'
theorem sc__law_demands : FnScope ["program", "count", "heads", "rows", "one", "param", "word", "place", "name", "params", "body", "near"] ["program"] (defScope s__law_demands) := ⟨rfl, rfl, rfl, by decide +kernel, rfl, by decide +kernel, by decide +kernel⟩
theorem c_law_demands (T : Txt K mg) (C__law_new : Cal P w K mg base 1 "_law_new" ["count"] sp_law_new) (C__law_demand : Cal P w K mg base 14 "_law_demand" ["tree", "near", "heads", "rows", "count"] (sp_law_demand 10)) : Cal P w K mg base 15 "_law_demands" ["program"] sp_law_demands := by
  obtain ⟨fd, F⟩ := T.F__law_demands
  refine mk_cal F T.g__law_demands (fun _ _ _ _ _ _ us hl => match us, hl with | [_], _ => rfl) (mk_ok F sc__law_demands (by walk_at "len") fun cdv A outer s H vs Q E hr h => ?_)
  obtain ⟨v, p, rfl, hv, S, hsz, q⟩ := h
  obtain ⟨a, xs, rfl, ha, ts⟩ := hv.inv
  refine ⟨_, (pss_cons (ps_set (i := 1) sc__law_demands.nd rfl (by first | exact Or.inl rfl | exact Or.inr rfl) (pe_lstK (pa_cons pe_int pa_nil))) (pss_cons (ps_set (i := 2) sc__law_demands.nd rfl (by first | exact Or.inl rfl | exact Or.inr rfl) pe_dnewK) (pss_cons (ps_set (i := 3) sc__law_demands.nd rfl (by first | exact Or.inl rfl | exact Or.inr rfl) (pe_lstK pa_nil)) (pss_cons (ps_for PassesOwn.never rfl (pi_tup (pv 0)) (pg_name (i := 4) sc__law_demands.nd rfl (by first | exact Or.inl rfl | exact Or.inr rfl)) (pss_one (ps_dput (hu_of hr) (pv 2) (pe_ix (ix_seqK (K := K) rfl) (pv 4) pe_int (fun _ _ => rfl)) (pe_tupK (pa_cons (pe_lc (own := [("param", 5)]) (g := (gName 5)) (tt := tYes) rfl sc__law_demands.nd (pi_tup (pe_ix (ix_seqK (K := K) rfl) (pv 4) pe_int (fun _ _ => rfl))) (blkOk_by (own := [("param", 5)]) (N := ["program", "count", "heads", "rows", "one", "param", "word", "place", "name", "params", "body", "near"]) (sc := defScope s__law_demands) (by decide +kernel)) (fun _ _ _ _ _ => (pg_name (i := 5) sc__law_demands.nd rfl (by first | exact Or.inl rfl | exact Or.inr rfl))) (fun _ _ _ _ _ => pts_nil) (fun _ _ _ _ _ => (pe_cal C__law_new hr (pa_cons (pv 1) pa_nil)))) (pa_cons (pe_cal C__law_new hr (pa_cons (pv 1) pa_nil)) pa_nil))) rfl))) (pss_cons (ps_for PassesOwn.never rfl (pi_tup (pv 0)) (pg_tup rfl (pgs_cons (pg_name (i := 6) sc__law_demands.nd rfl (by first | exact Or.inl rfl | exact Or.inr rfl)) (pgs_cons (pg_name (i := 7) sc__law_demands.nd rfl (by first | exact Or.inl rfl | exact Or.inr rfl)) (pgs_cons (pg_name (i := 8) sc__law_demands.nd rfl (by first | exact Or.inl rfl | exact Or.inr rfl)) (pgs_cons (pg_name (i := 9) sc__law_demands.nd rfl (by first | exact Or.inl rfl | exact Or.inr rfl)) (pgs_cons (pg_name (i := 10) sc__law_demands.nd rfl (by first | exact Or.inl rfl | exact Or.inr rfl)) pgs_nil)))))) (pss_cons (ps_set (i := 11) sc__law_demands.nd rfl (by first | exact Or.inl rfl | exact Or.inr rfl) (pe_dictZip true false rfl (by rfl) T.b_dict (by rfl) T.b_zip (pa_cons (pv 9) (pa_cons (pe_ix (ix_seqK (K := K) rfl) (pe_dget (hu_of hr) (pv 2) (pv 8) (fun _ _ => rfl)) pe_int (fun _ _ => rfl)) pa_nil)))) (pss_one (ps_expr (pe_bm PySem.F.plainAttrs_list PySem.F.slot_list_append PySem.F.type_list_append mt_append (pv 3) (pa_cons (pe_tupK (pa_cons (pv 7) (pa_cons (pe_ix (ix_seqK (K := K) rfl) (pe_dget (hu_of hr) (pv 2) (pv 8) (fun _ _ => rfl)) pe_int (fun _ _ => rfl)) (pa_cons (pe_cal C__law_demand hr (pa_cons (pv 10) (pa_cons (pv 11) (pa_cons (pv 2) (pa_cons (pv 3) (pa_cons (pv 1) pa_nil)))))) pa_nil)))) pa_nil)))))) (pss_one (ps_ret (pe_tupK (pa_cons (pv 3) (pa_cons (pv 2) pa_nil)))))))))), ?_⟩
  have hlen : xs.length = p.length := by rw [ts.1, List.length_map]
  have hfew := S.few
  walk_at "rr"
  refine ⟨by simp, fun cl H1 k1 n1 e1 => ?_⟩
  walk_at "rr"
  intro hd H2 k2 n2 e2
  walk_at "rr"
  refine ⟨by simp, fun l H3 k3 n3 e3 => ?_⟩
  have k02 := k1.trans k2
  have k03 := k02.trans k3
  have clN : H cl = none := n1
  have hdN : H hd = none := k1.free n2
  have lN : H l = none := k02.free n3
  have cd : cl ≠ hd := ne_of_none e1 n2
  have hl : hd ≠ l := ne_of_none e2 n3
  have cl' : cl ≠ l := ne_of_none (k2.at e1 ni0) n3
  have c3 := (k2.trans k3).at e1 ni0
  have d3 := k3.at e2 ni0
  have ha3 := k03.atT ha
  have ts3 := ts.mono k03
  walk_at "rr"
  refine ⟨⟨_, SqT.of ha3⟩, ?_⟩
  refine forW (walk_tup (xs := xs)) (fun i σ H' => ∃ o4, σ = [some (.ref a), some (.ref cl), some (.ref hd), some (.ref l), o4, none, none, none, none, none, none, none] ∧ Kp [cl, hd] H3 H' ∧ H' cl = some (.lst [.int (((heads (p.take i) 0).2 : Nat) : Int)]) ∧ HtAt H' [l, cl] hd (shT (tbOf (p.take i) (heads (p.take i) 0).1)) ∧ ∃ kvs, H' hd = some (.dK kvs) ∧ kvs.length ≤ i)
    ⟨none, rfl, Kp.refl _ _, by simpa [heads] using c3, ⟨[], d3, fun x => by simp [tbOf, shT, valV]⟩, [], d3, Nat.le_refl _⟩ ?_ ?_ ?_
  · rintro i σ H' _ ⟨_, _, k, _⟩
    exact SqT.of (k.atT ha3)
  · rintro i y σ H5 H6 hi2 ⟨o4, rfl, k5, c5, HT5, kvs, hd5, hkl⟩ ⟨rfl, hy⟩
    obtain ⟨dd, hdd, hid, htd⟩ := ts3.map_get hy
    have hv6 := htd.mono k5
    walk_at "rr"
    refine r_ix hv6 3 rfl fun v3 h3 => ?_
    obtain ⟨a4, xs4, rfl, ha4, ts4⟩ := h3.inv
    have hx4 : xs4.length = dd.params.length := by rw [ts4.1, List.length_map]
    have hp4 := (S.ok dd hdd).few
    walk_at "rr"
    refine ⟨⟨_, SqT.of ha4⟩, ?_⟩
    refine lcW (walk_tup (xs := xs4)) (by omega) [cl] (fun j acc H' => H' cl = some (.lst [.int (((heads (p.take i) 0).2 + j : Nat) : Int)]) ∧ TDs H' acc ((((List.range j).map fun j => an ((heads (p.take i) 0).2 + j)).map sh).map kd)) (fun H8 k8 => SqT.of (k8.atT ha4)) (fun D0 H8 hD k8 => ⟨k8.at c5 ni0, TDs.nil⟩) ?_ ?_
    · rintro j z D0 acc H8 H9 hj hD hl8 k8 hdd8 ⟨c8, ta8⟩ ⟨rfl, hz⟩
      have cD : cl ≠ D0 := ne_of_none c5 hD
      walk_at "rr"
      refine ⟨rfl, ?_⟩
      walk_at "rr"
      refine r_yes rfl ?_
      walk_at "rr"
      refine ⟨cl, _, rfl, c8, fun nv H10 k10 e10 tn => ?_⟩
      refine lc_fin hD (by omega) hl8 (k8.trans k10) (k10.at hdd8 (ni1 (Ne.symm cD))) fun H11 k11 => ⟨k11.at e10 (ni1 cD), ?_⟩
      rw [List.range_succ, List.map_append, List.map_append, List.map_append]
      refine ((ta8.mono k10).snoc ?_).mono k11
      show TD H10 nv (kd (sh (an _)))
      rw [sh_an]
      exact tn
    · rintro D0 acc H8 hD hl8 k8 hdd8 ⟨c8, ta8⟩
      rw [hx4] at c8 ta8
      have cD : cl ≠ D0 := ne_of_none c5 hD
      have lD : l ≠ D0 := ne_of_none (k5.at e3 (ni2 (Ne.symm cl') (Ne.symm hl))) hD
      walk_at "rr"
      refine ⟨cl, _, rfl, c8, fun nv H9 k9 e9 tn => ?_⟩
      refine ⟨by simp, fun p10 H10 k10 n10 e10 => ?_⟩
      have e0 := k10.at (k9.at hdd8 (ni1 (Ne.symm cD))) ni0
      have k610 : Kp [cl] _ H10 := k8.trans (k9.trans (k10.mono (by simp)))
      have hd10 := k610.at hd5 (ni1 (Ne.symm cd))
      walk_at "rr"
      refine r_ix_str (hv6.mono k610) 2 rfl ?_
      refine r_dput_s hd10 (by omega) fun H11 k11 e11 => ?_
      walk_at "rr"
      have nm : dd.name ∉ (p.take i).map Df.name := by
        rw [List.map_take]
        exact not_mem_take S.names (by rw [List.getElem?_map, hid]; rfl)
      refine ⟨_, rfl, k5.trans ((k610.mono (by simp)).trans (k11.mono (by simp))), ?_, ?_, _, e11, Nat.le_trans (length_putK _ _ _) (by omega)⟩
      · rw [take_snoc hid, heads_snoc]
        exact k11.at (k10.at e9 ni0) (ni1 cd)
      · rw [take_snoc hid, heads_snoc]
        refine HtAt.put (ks := (headOf (heads (p.take i) 0).2 dd).1.map sh) (k := sh (headOf (heads (p.take i) 0).2 dd).2) hd10 (HT5.mono k610 (by simp) (ni1 (Ne.symm cd))) e10 e0 (ni2 (Ne.symm lD) (Ne.symm cD)) ((ta8.mono k9).mono k10) ?_ k11 e11 (fun y => ?_)
        · show TD H10 nv (kd (sh (an _)))
          rw [sh_an]
          exact tn.mono k10
        · unfold shT
          rw [tbOf_snoc (heads_len _ _) dd _ nm y]
          split <;> rfl
  · rintro σ H5 ⟨o4, rfl, k5, c5, HT5, _⟩
    rw [hlen, List.take_length] at c5 HT5
    have k05 : Kp [] H H5 := ((k03.mono (M1 := [cl, hd]) (by simp)).trans k5).drop fun b hb => by simp at hb; rcases hb with hb | hb <;> simp [hb, clN, hdN]
    have e5 := k5.at e3 (ni2 (Ne.symm cl') (Ne.symm hl))
    have ha5 := k05.atT ha
    have ts5 := ts.mono k05
    have hdM : hd ∉ [l, cl] := ni2 hl (Ne.symm cd)
    walk_at "rr"
    refine ⟨⟨_, SqT.of ha5⟩, ?_⟩
    refine forW (walk_tup (xs := xs)) (fun i σ H' => ∃ o6 o7 o8 o9 o10 o11 rs', σ = [some (.ref a), some (.ref cl), some (.ref hd), some (.ref l), o4, none, o6, o7, o8, o9, o10, o11] ∧ Kp [l, cl] H5 H' ∧ RwAt H' l rs' ∧ SameR rs' ((genDs (tbP p) (p.take i) ((hdP p).take i) (heads p 0).2).1.map shR) ∧ H' cl = some (.lst [.int (((genDs (tbP p) (p.take i) ((hdP p).take i) (heads p 0).2).2 : Nat) : Int)]))
      ⟨none, none, none, none, none, none, [], rfl, Kp.refl _ _, ⟨[], e5, TDs.nil⟩, by simp [genDs]; exact SameR.refl _, by simpa [genDs] using c5⟩ ?_ ?_ ?_
    · rintro i σ H' _ ⟨_, _, _, _, _, _, _, _, k, _⟩
      exact SqT.of (k.atT ha5)
    · rintro i y σ H6 H7 hi2 ⟨o6, o7, o8, o9, o10, o11, rs6, rfl, k6, R6, S6, c6⟩ ⟨rfl, hy⟩
      obtain ⟨dd, hdd, hid, htd⟩ := ts5.map_get hy
      have hih := heads_at hid 0
      have htb : tbP p dd.name = some (headOf (heads (p.take i) 0).2 dd) := tbOf_at S.names hid hih
      obtain ⟨ad, v1, v3, v4, rfl, hta, t1, t3, t4⟩ := (htd.mono k6).df_inv
      have HT6 := HT5.mono k6 (by simp) hdM
      obtain ⟨kvt, ht1, ht2⟩ := id HT6
      have ht2 := ht2 dd.name
      rw [show shT (tbOf p (heads p 0).1) dd.name = some ((headOf (heads (p.take i) 0).2 dd).1.map sh, sh (headOf (heads (p.take i) 0).2 dd).2) from by unfold shT; rw [show tbOf p (heads p 0).1 dd.name = _ from htb]; rfl] at ht2
      obtain ⟨p1, q1, vs1, w1, g1, g2, g3, g4, g5, g6⟩ := ht2
      have hok := S.ok dd hdd
      have hvk : vs1.length = dd.params.length := by rw [g5.1, List.length_map, List.length_map]; simp [headOf]
      obtain ⟨a3, xs3, rfl, ha3, ts4⟩ := t3.inv
      have hx3 := ts4.strs_inv
      refine r_gTup rfl hta rfl ?_
      walk_at "rr"
      refine r_dget_s ht1 g1 ?_
      refine .inr (.inl ⟨p1, _, 0, _, rfl, rfl, SqT.of g2, rfl, ?_⟩)
      refine ⟨a3, q1, dd.params.map Sum.inr, vs1, rfl, sqBt (by rw [ha3, hx3, List.map_map]; rfl), sqBl g3, by rw [List.length_map]; exact hvk, fun nd H9 k9 n9 e9 => ?_⟩
      have hst := szP_take hid
      have hgl := genDs_len (tbP p) (p.take i) ((hdP p).take i) (heads p 0).2
      have NN : NrAt H9 nd (shE (envOf dd.params (headOf (heads (p.take i) 0).2 dd).1)) 4 := by
        rw [shE_env]
        exact ⟨_, e9, Nat.le_trans (length_mergeK _ _) (by simp; have := hok.few; omega), nr_zip hvk (g5.mono k9) (fun x => rfl)⟩
      obtain ⟨rv, gr, trr⟩ := id R6
      have rvl : rv.length = rs6.length := by rw [trr.1, List.length_map]
      have hl6 : rs6.length ≤ 6 * szP (p.take i) := by
        have := S6.len
        rw [List.length_map] at this
        omega
      walk_at "rr"
      refine ⟨tyV_l (k9.at gr ni0), ?_⟩
      walk_at "rr"
      refine r_dget_s (k9.at ht1 ni0) g1 ?_
      refine .inr (.inl ⟨p1, _, 1, _, rfl, rfl, SqT.of (k9.atT g2), rfl, ?_⟩)
      walk_at "rr"
      refine ⟨v4, nd, hd, l, cl, dd.body, _, 4, tbP p, rs6, _, arL p, dd.params, rfl, t4.mono k9, NN, HT6.mono k9 (by simp) ni0, R6.mono k9 ni0, k9.at c6 ni0, Ne.symm cl', hok.dep, hok.body, S.snd dd hdd, fun x => tbOf_ar p 0 x, fun x => by
        rw [envOf, envOf_some _ _ _ _ (by simp [headOf])]
        simp, by omega, by omega, fun v10 H10 rs10 k10 R10 S10 c10 t10 => ?_⟩
      refine ⟨by simp, fun p11 H11 k11 n11 e11 => ?_⟩
      have hgn := gen_len (tbP p) 10 dd.body (envOf dd.params (headOf (heads (p.take i) 0).2 dd).1) (genDs (tbP p) (p.take i) ((hdP p).take i) (heads p 0).2).2
      have hl10 := S10.len
      rw [List.length_map] at hl10
      obtain ⟨rv10, gr10, tr10⟩ := id R10
      have rvl10 : rv10.length = rs6.length + rs10.length := by rw [tr10.1, List.length_map, List.length_append]
      have k711 : Kp [l, cl] _ H11 := (k9.mono (M1 := [l, cl]) (by simp)).trans (k10.trans (k11.mono (by simp)))
      have gr11 := k11.at gr10 ni0
      walk_at "rr"
      refine r_append gr11 (by omega) ?_
      have kw : Kp [l] H11 (upd H11 l (.lst (rv10 ++ [.ref p11]))) := Kp.wr (by simp) gr11 rfl
      have ew : (upd H11 l (.lst (rv10 ++ [.ref p11]))) l = some (.lst (rv10 ++ [.ref p11])) := upd_same
      generalize upd H11 l (.lst (rv10 ++ [.ref p11])) = H12 at kw ew
      walk_at "rr"
      have trow : TD H12 (.ref p11) (rowD (dd.p, sh (headOf (heads (p.take i) 0).2 dd).2, sh (an (genDs (tbP p) (p.take i) ((hdP p).take i) (heads p 0).2).2))) := by
        refine TD.mk (kw.atT e11) (TDs.mono kw (TDs.mono k11 (.cons ((t1.mono k9).mono k10) (.cons ((g6.mono k9).mono k10) (.cons ?_ .nil)))))
        rw [sh_an]
        exact t10
      have hih2 : (hdP p)[i]? = some (headOf (heads (p.take i) 0).2 dd) := hih
      refine ⟨_, _, _, _, _, _, (rs6 ++ rs10) ++ [(dd.p, sh (headOf (heads (p.take i) 0).2 dd).2, sh (an (genDs (tbP p) (p.take i) ((hdP p).take i) (heads p 0).2).2))], rfl, k6.trans (k711.trans (kw.mono (by simp))), ⟨_, ew, ?_⟩, ?_, ?_⟩
      · rw [List.map_append]
        exact (((tr10.mono k11).mono kw)).snoc trow
      · rw [take_snoc hid, take_snoc hih2, genDs_snoc _ _ _ _ _ _ (by
          have := heads_len p 0
          rw [List.length_take, List.length_take]
          unfold hdP
          rw [this])]
        rw [List.map_append, List.map_append, List.append_assoc]
        exact S6.app (S10.app (SameR.refl _))
      · rw [take_snoc hid, take_snoc hih2, genDs_snoc _ _ _ _ _ _ (by
          have := heads_len p 0
          rw [List.length_take, List.length_take]
          unfold hdP
          rw [this])]
        exact kw.at (k11.at c10 ni0) (ni1 cl')
    · rintro σ H6 ⟨o6, o7, o8, o9, o10, o11, rs6, rfl, k6, R6, S6, c6⟩
      have el : (hdP p).length = p.length := heads_len p 0
      rw [hlen, List.take_length, ← el, List.take_length] at S6
      walk_at "rr"
      refine ⟨by simp, fun pz H7 k7 n7 e7 => ?_⟩
      refine q pz l _ H7 rs6 (((k05.mono (M1 := [l, cl]) (by simp)).trans (k6.trans (k7.mono (by simp)))).drop fun b hb => ?_) e7 (R6.mono k7 ni0) S6
      simp at hb
      rcases hb with hb | hb <;> simp [hb, lN, clN]
end
end Tp
set_option Elab.async false
set_option linter.all false
set_option maxRecDepth 100000
set_option maxHeartbeats 4000000
namespace Tp
open PySem PySem.Spec PyProof.Rows L2

/-! ### a lambda with one parameter, handed on from def to def -/
/-- from the state in which the lambda was made on -/
structure Lt (fs0 : List Addr) (H0 : Hp) (h0 : Heap) (outer : List Env) (H : Hp) (h : Heap) : Prop where
  un : Un fs0 [] H0 H h0 h
  fr : ∀ b ∈ frs outer, b ∈ fs0 ∨ h0.objs.size ≤ b
  sz : h0.objs.size ≤ h.objs.size
section
variable {X : Cx} {pins : List (Addr × Obj)} {σ : L2.St} {H H0 : Hp} {s : Shared} {fs0 : List Addr} {h0 : Heap}
theorem Lt.at_ (L : Lt fs0 H0 h0 X.outer X.H_0 X.s_0.heap) (hx : X.ex = []) (I : Inv X pins σ H s) : Un fs0 [] H0 H h0 s.heap := by
  have nx : ∀ b : Addr, b ∉ X.ex := fun b hb => by
    rw [hx] at hb
    cases hb
  refine ⟨fun b o e n hb _ => ?_, fun b o e n hb _ => ?_, fun b o e n _ => ?_, fun b o e _ => ?_, fun b xs e => I.base.tups b xs (L.un.tups b xs e), fun b o u e => I.base.frzs b o u (L.un.frzs b o u e), fun b ps e => ?_⟩
  · refine I.base.keep b o (L.un.keep b o e n hb (by simp)) (L.un.free b o e n (by simp)) (fun z => ?_) (nx b)
    rcases L.fr b z with z | z
    · exact hb z
    · exact absurd (Heap.lt_size e) (Nat.not_lt.mpr z)
  · obtain ⟨sl, e1⟩ := L.un.slot b o e n hb (by simp)
    obtain ⟨sl2, e2⟩ := I.base.any e1 (L.un.free b o e n (by simp)) (nx b)
    exact ⟨sl2, e2⟩
  · obtain ⟨sl, e1⟩ := L.un.any e n (by simp)
    exact I.base.free b _ e1 (L.un.free b o e n (by simp)) (nx b)
  · obtain ⟨o1, e1⟩ := L.un.there b o e (by simp)
    exact I.base.there b o1 e1 (nx b)
  · obtain ⟨m1, e1⟩ := L.un.tbls b ps e
    obtain ⟨m2, e2⟩ := I.base.tbls b _ e1
    exact ⟨m1 ++ m2, by rw [e2, Array.append_assoc]⟩
theorem Lt.call (L : Lt fs0 H0 h0 X.outer X.H_0 X.s_0.heap) (hx : X.ex = []) (I : Inv X pins σ H s) : Lt fs0 H0 h0 X.stack H s.heap := by
  refine ⟨L.at_ hx I, fun b hb => ?_, Nat.le_trans L.sz I.sz⟩
  rcases List.mem_cons.mp (I.stkSub b hb) with z | z
  · right
    rw [z]
    exact Nat.le_trans L.sz I.ok.above
  · exact L.fr b z
theorem Lt.start (I : Inv X pins σ H s) : Lt (frs X.stack) H s.heap X.stack H s.heap := ⟨Un.refl, fun b hb => .inl hb, Nat.le_refl _⟩
end
/-- what a call of the lambda at f gives: ov -/
structure Deed (P : Program) (w : World) (K : PySem.W.Frag) (mg : Str → Option Value) (base : Heap) (k : Nat) (f c' : Addr) (q : Str) (ov : V) (fs0 : List Addr) (H0 : Hp) (h0 : Heap) : Prop where
  at_ : ∀ (H : Hp) (h : Heap), Un fs0 [] H0 H h0 h → PySem.W.FnAt f h
  run : ∀ (A : Around) (outer : List Env) (s : Shared) (H : Hp) (v : V) (u : Value) (Q : VK), Room k A → Env0 P w K mg base A outer s H → Un fs0 [] H0 H h0 s.heap → H c' = some (LamX.CodeO c' q) → RelV v u → Q ov H →
    codeAny (model P w) A (.call (.ref f) ⟨[u], []⟩) (CR CX0 outer P w H s Q E0) s
/-- the cells hold what they held -/
theorem cells_un {cl : List (Str × Addr)} {fr : List Str} {ws : List (Option V)} {fs0 : List Addr} {H0 H : Hp} {h0 h : Heap} (C : NdefX.CellsAt cl fr ws h0 H0) (u : Un fs0 [] H0 H h0 h) : NdefX.CellsAt cl fr ws h H := by
  have kp : ∀ c, H0 c = none → ∀ v, h0.IsCell c v → h.IsCell c v := fun c n v ⟨o, ho, hd⟩ => by
    obtain ⟨sl, e⟩ := u.any ho n (by simp)
    exact ⟨_, e, hd⟩
  refine ⟨C.len, fun y c e => ?_, C.inj, fun i y e => ?_⟩
  · obtain ⟨n, v, z⟩ := C.all y c e
    refine ⟨?_, v, kp c n v z⟩
    obtain ⟨o, ho, _⟩ := z
    exact u.free c o ho n (by simp)
  · obtain ⟨c, hc, hv⟩ := C.has i y e
    refine ⟨c, hc, fun v ev => ?_⟩
    obtain ⟨uu, r, z⟩ := hv v ev
    exact ⟨uu, r, kp c (C.all y c hc).1 _ z⟩
section
variable {X : Cx} {pins : List (Addr × Obj)} {σ : L2.St} {H : Hp} {s : Shared}
/-- lambda x: y, y a captured name whose value is known -/
theorem deed_mk {f c' : Addr} {params : Arguments} {scope : Scope} {pm ctv : Value} {x y : Str} {bp : Pos} {j : Nat} {ov : V} (I : Inv X pins σ H s) (hx : X.ex = [])
    (hf : s.heap.get? f = some (PySem.W.kla_obj "<lambda>" (X.env.qual ++ "<lambda>") params (.Name y bp) scope (cloFrom X.env.cells scope.names []) pm c' ctv)) (hfn : H f = none) (S : NdefX.NScope [x, y] [x] [y] scope)
    (hfree : ∀ z ∈ scope.names, z.2 = .free → X.env.scope.names.lookup z.1 = some .cell ∨ X.env.scope.names.lookup z.1 = some .free) (hj : X.N[j]? = some y) (hs : σ[j]? = some (some ov))
    (hb : ∀ u : Value, bindArgs (PySem.W.kla_fn "<lambda>" (X.env.qual ++ "<lambda>") params (.Name y bp) scope (cloFrom X.env.cells scope.names []) pm (.ref c') ctv) ⟨[u], []⟩ = pure [(x, u)])
    (hd : (y == ("__debug__" : Str)) = false := by decide) (hcd : (y == ("__classdict__" : Str)) = false := by decide) :
    Deed X.prog X.w X.K X.mg X.base 1 f c' (X.env.qual ++ "<lambda>") ov (frs X.stack) H s.heap := by
  have nmem : (y, NameKind.free) ∈ scope.names := PySem.mem_of_lookup (S.frk y (by simp))
  have C0 : NdefX.CellsAt (cloFrom X.env.cells scope.names []) [y] [some ov] s.heap H := by
    have C := NdefX.cells_of I (NdefX.Caps.made (X := X) (scope := scope) (fr := [y]) (js := [j]) I.ok hfree (fun z hz => by rw [List.mem_singleton.mp hz]; exact nmem) (by simp [hj]))
    have e : [j].map (NdefX.slotAt σ) = [some ov] := by simp [NdefX.slotAt_of hs]
    rw [e] at C
    exact C
  refine ⟨fun H1 h1 u => ?_, fun A outer s1 H1 v u Q hr e0 un hc r q => ?_⟩
  · obtain ⟨sl, e⟩ := u.any hf hfn (by simp)
    exact ⟨_, _, _, sl, e⟩
  · obtain ⟨sl, e⟩ := un.any hf hfn (by simp)
    have lim : s1.heap.NoLimit := e0.mod.nolimit.keeps fun b o z => (e0.bs b o z).1
    have C1 := cells_un C0 un
    let F : NdefX.NF := ⟨"<lambda>", X.env.qual ++ "<lambda>", params, [], scope, cloFrom X.env.cells scope.names [], c'⟩
    refine PySem.W.kla_callFunE hr.depth e rfl S.co S.gen rfl (NdefX.codeO_at e0.hok hc) ?_
    rw [hb]
    refine wpAny_pure (wpAny_newFunctionEnv S.nocell (fun z hz => ?_) (fun h₁ hns hsb => ⟨lim.fresh _ hsb, ?_⟩) S.kind)
    · rw [List.mem_singleton.mp hz]
      exact S.par x (by simp)
    show codeAny _ _ (.expr (.Name y bp) (NdefX.envF F f s1.heap.objs.size)) _ _
    have kp : ∀ b o, s1.heap.get? b = some o → h₁.get? b = some o := fun b o z => hsb.extBut b o (Nat.ne_of_lt (Heap.lt_size z)) (Heap.get?_push_of_some _ z)
    have J : Inv (NdefX.ncx CX0 X.prog X.w X.K X.mg X.base [x, y] F f A outer s1 H1 E0) [] (NdefX.startF [x, y] [v] [some ov]) H1 { s1 with heap := h₁, toks := s1.toks + [(x, u)].length } :=
      NdefX.inv_startN (us := [u]) S hr.hd e0 rfl (.cons r .nil) C1 hns kp
    have body := (pe_var (X := NdefX.ncx CX0 X.prog X.w X.K X.mg X.base [x, y] F f A outer s1 H1 E0) (i := 1) (pos := bp) rfl (.inr (.inr (S.frk y (by simp)))) hd hcd).run [] _ _ H1 Q J ⟨ov, rfl, q⟩
    refine PySem.W.kla_codeExpr (wpAny_mono body (fun v s' hq => ?_) fun e s' hq => hq)
    obtain ⟨w', H', J', rv, q⟩ := hq
    exact ⟨w', H', J'.os, J'.bare, J'.base, J'.hok, rv, q⟩
end
/-- a def that gets a lambda: its promise hangs on it -/
structure ChOk (P : Program) (w : World) (K : PySem.W.Frag) (mg : Str → Option Value) (base : Heap) (k j : Nat) (g : Addr) (sp : Addr → Addr → Str → V → List V → Hp → VK → Prop) : Prop where
  run : ∀ (A : Around) (outer : List Env) (s : Shared) (H : Hp) (us : List Value) (vs : List V) (Q : VK) (fs0 : List Addr) (H0 : Hp) (h0 : Heap) (f c' : Addr) (q : Str) (ov : V), Room k A → Env0 P w K mg base A outer s H → Lt fs0 H0 h0 outer H s.heap →
    Deed P w K mg base j f c' q ov fs0 H0 h0 → Vals vs us → sp f c' q ov vs H Q → codeAny (model P w) A (.call (.ref g) ⟨us, []⟩) (CR CX0 outer P w H s Q E0) s
def tDeed (i : Nat) (f c' : Addr) (q : Str) (ov : V) (t : TA) : TE := fun σ H Q => σ[i]? = some (some (.ref f)) ∧ t σ H fun vs H1 => ∃ v, vs = [v] ∧ H1 c' = some (LamX.CodeO c' q) ∧ Q ov H1
def tCh (sp : List V → Hp → VK → Prop) (t : TA) : TE := fun σ H Q => t σ H fun vs H1 => sp vs H1 Q
section
variable {X : Cx} {k j i : Nat} {fs0 : List Addr} {H0 : Hp} {h0 : Heap} {f c' g : Addr} {q a x : Str} {ov : V} {sp : Addr → Addr → Str → V → List V → Hp → VK → Prop} {t : TA} {te : TE} {e : Expr} {es : List Expr} {p pos : Pos}
theorem after_call {pins : List (Addr × Obj)} {σ : L2.St} {H : Hp} {s : Shared} {Q : VK} {fa : Addr} {us : List Value} (I : Inv X pins σ H s) (h : codeAny (model X.prog X.w) X.A (.call (.ref fa) ⟨us, []⟩) (CR CX0 X.stack X.prog X.w H s Q E0) s) :
    wpAny (model X.prog X.w) X.A (call (.ref fa) us) (EP X pins σ Q) X.xe s :=
  wpAny_call (codeAny_mono h fun r s' hq => match r, hq with
    | .ok (.ret u), hq => I.after hq)
/-- a(e), a the name of the lambda -/
theorem pe_deed (L : Lt fs0 H0 h0 X.outer X.H_0 X.s_0.heap) (hx : X.ex = []) (D : Deed X.prog X.w X.K X.mg X.base j f c' q ov fs0 H0 h0) (hr : Room j X.A) (hN : X.N[i]? = some a) (hv : Vis X.env.scope a) (ha : PA X [e] t)
    (hd : (a == ("__debug__" : Str)) = false := by decide) (hcd : (a == ("__classdict__" : Str)) = false := by decide) (hs : starEach [e] X.env = (false, eval e X.env) :: starEach [] X.env := by rfl) (hpl : (backTo pos (starEach [] X.env)).any (·.1) = false := by rfl) :
    PE X (.Call (.Name a p) [e] [] pos) (tDeed i f c' q ov t) := by
  refine ⟨fun pins s σ H Q I h => ?_⟩
  obtain ⟨h1, h2⟩ := h
  refine wpAny_Call_Name_kw (thn ((pe_var (pos := p) hN hv hd hcd).run pins s σ H (fun v H1 => v = .ref f ∧ H1 = H) I ⟨.ref f, h1, rfl, rfl⟩) fun u0 s1 w1 => ?_)
  obtain ⟨v1, H1, I1, r1, rfl, rfl⟩ := w1
  cases r1
  refine PySem.W.callWith_F (first := []) (D.at_ _ _ (L.at_ hx I1)) (thn (ha.run pos pins s1 σ _ _ I1 h2) fun us s2 w2 => ?_) hs hpl
  obtain ⟨vs, H2, I2, r2, v, rfl, hc, hq⟩ := w2
  cases r2 with
  | cons r rr =>
    cases rr
    exact ⟨D.at_ _ _ (L.at_ hx I2), after_call I2 (D.run X.A X.stack s2 H2 v _ Q hr I2.env0 (L.at_ hx I2) hc r hq)⟩
/-- the def called anew, with the same lambda -/
theorem pe_ch (C : ChOk X.prog X.w X.K X.mg X.base k j g sp) (hr : Room k X.A) (hg : Gl X x) (hm : X.mg x = some (.ref g)) (hk : PySem.W.keepIn X.K (.ref g) = true) (L : Lt fs0 H0 h0 X.outer X.H_0 X.s_0.heap) (hx : X.ex = []) (D : Deed X.prog X.w X.K X.mg X.base j f c' q ov fs0 H0 h0) (ha : PA X (e :: es) t)
    (hdb : (x == ("__debug__" : Str)) = false := by decide) (he : starEach (e :: es) X.env = (false, eval e X.env) :: starEach es X.env := by rfl) (hpl : (backTo pos (starEach es X.env)).any (·.1) = false := by rfl) :
    PE X (.Call (.Name x p) (e :: es) [] pos) (tCh (sp f c' q ov) t) := by
  refine ⟨fun pins s σ H Q I h => wpAny_Call_Name_kw (ld_glob I hg hm ?_ hdb)⟩
  refine PySem.W.callWith_K (h₀ := X.base) I.ok.mod.kin hk (thn (ha.run pos pins s σ H _ I h) fun us s1 w1 => ?_) he hpl
  obtain ⟨vs, H1, I1, r, hq⟩ := w1
  exact ⟨I1.kIn, after_call I1 (C.run X.A X.stack s1 H1 us vs Q fs0 H0 h0 f c' q ov hr I1.env0 (L.call hx I1) D r hq)⟩
/-- x(e1, e2, lambda z: y): the lambda's code object is found in the table, or new -/
def tLam3 (T : List (Addr × Str)) (q : Str) (j : Nat) (sp : Addr → Addr → Str → V → List V → Hp → VK → Prop) (t1 t2 : TE) : TE := fun σ H Q => t1 σ H fun x1 H1 => t2 σ H1 fun x2 H2 => ∃ ov, σ[j]? = some (some ov) ∧ LamX.Tabs T H2 ∧
  ∀ (f c' : Addr) (H3 : Hp), LamX.ExtN H2 H3 → LamX.Tabs T H3 → H3 c' = some (LamX.CodeO c' q) → sp f c' q ov [x1, x2, .ref f] H3 Q
theorem pe_lam3 {T : List (Addr × Str)} {cc PT : Addr} {z y : Str} {e1 e2 : Expr} {t1 t2 : TE} {params : Arguments} {bp lp : Pos} {scope : Scope} {jj : Nat} (C : ChOk X.prog X.w X.K X.mg X.base k 1 g sp) (hr : Room k X.A) (hg : Gl X x) (hm : X.mg x = some (.ref g)) (hk : PySem.W.keepIn X.K (.ref g) = true)
    (TB : LamX.TabB X.base X.mg cc PT) (hcode : X.env.code = .ref cc) (hmT : (PT, X.env.qual ++ "<lambda>") ∈ T) (hu : ∀ p ∈ T, p.1 = PT → p.2 = X.env.qual ++ "<lambda>") (S : NdefX.NScope [z, y] [z] [y] scope)
    (hfree : ∀ u ∈ scope.names, u.2 = .free → X.env.scope.names.lookup u.1 = some .cell ∨ X.env.scope.names.lookup u.1 = some .free) (hj : X.N[jj]? = some y) (hdef : defaultsOf params X.env = ([], []))
    (hb : ∀ (q : Str) (cl : List (Str × Addr)) (pm cv ctv u : Value), bindArgs (PySem.W.kla_fn "<lambda>" q params (.Name y bp) scope cl pm cv ctv) ⟨[u], []⟩ = pure [(z, u)]) (h1 : PE X e1 t1) (h2 : PE X e2 t2) (hx : X.ex = [])
    (hdb : (x == ("__debug__" : Str)) = false := by decide) (hd : (y == ("__debug__" : Str)) = false := by decide) (hcd : (y == ("__classdict__" : Str)) = false := by decide)
    (he : starEach (e1 :: [e2, .Lambda params (.Name y bp) scope lp]) X.env = (false, eval e1 X.env) :: starEach [e2, .Lambda params (.Name y bp) scope lp] X.env := by rfl)
    (he2 : starEach [e2, .Lambda params (.Name y bp) scope lp] X.env = [(false, eval e2 X.env), (false, eval (.Lambda params (.Name y bp) scope lp) X.env)] := by rfl)
    (hpl : (backTo pos (starEach [e2, .Lambda params (.Name y bp) scope lp] X.env)).any (·.1) = false := by rfl) :
    PE X (.Call (.Name x p) [e1, e2, .Lambda params (.Name y bp) scope lp] [] pos) (tLam3 T (X.env.qual ++ "<lambda>") jj sp t1 t2) := by
  refine ⟨fun pins s σ H Q I h => wpAny_Call_Name_kw (ld_glob I hg hm ?_ hdb)⟩
  refine PySem.W.callWith_K (h₀ := X.base) I.ok.mod.kin hk ?_ he hpl
  rw [he, he2]
  show wpAny _ _ (spliced [(false, eval e1 X.env), (false, eval e2 X.env), (false, eval (.Lambda params (.Name y bp) scope lp) X.env)]) _ _ s
  refine Calls.spliced_cons (thn (h1.run pins s σ H _ I h) fun u1 s1 w1 => ?_)
  obtain ⟨x1, H1, I1, r1, q1⟩ := w1
  refine Calls.spliced_cons (thn (h2.run pins s1 σ H1 _ I1 q1) fun u2 s2 w2 => ?_)
  obtain ⟨x2, H2, I2, r2, ov, hs, hT, q2⟩ := w2
  have fr : ∀ u ∈ scope.names, u.2 = .free → ∃ c, X.env.cells.lookup u.1 = some c := fun u hu e => (hfree u hu e).elim (fun z => I2.ok.has _ (.inl z)) fun z => I2.ok.has _ (.inr z)
  refine Calls.spliced_cons (LamX.lam_make2 I2 TB hcode hmT hu hT hdef fr fun f c' pm ctv H3 s3 I3 eN T3 hf hfn _ hco => ?_)
  refine Calls.spliced_nil ⟨I3.kIn, ?_⟩
  exact after_call I3 (C.run X.A X.stack s3 H3 [u1, u2, .ref f] [x1, x2, .ref f] Q (frs X.stack) H3 s3.heap f c' _ ov hr I3.env0 (Lt.start I3) (deed_mk I3 hx hf hfn S hfree hj hs (fun u => hb _ _ _ _ _ u) hd hcd) (.cons r1 (.cons r2 (.cons rfl .nil))) (q2 f c' H3 eN T3 hco))
end
end Tp
set_option Elab.async false
set_option linter.all false
set_option maxRecDepth 100000
set_option maxHeartbeats 4000000
set_option pp.maxSteps 500
set_option pp.deepTerms false
namespace Tp
open PySem PySem.Spec PyProof.Rows L2
local macro_rules | `(tactic| walk_at "r") => `(tactic| with_reducible first
  | refine r_seq ?_ | refine r_set ?_ | refine r_ret ?_ | refine r_ifS ?_ | refine r_drop ?_ | refine r_next ?_ | refine r_nx ?_ | refine r_rt ?_
  | refine r_var rfl ?_ | refine r_c ?_ | refine r_op ?_ | refine r_test ?_ | refine r_B ?_ | refine r_exbl ?_ | refine r_exstr ?_ | refine r_exref ?_ | refine r_exint ?_ | refine r_ex2 ?_ | refine r_not ?_ | refine r_and ?_ | refine r_or ?_
  | refine r_andV ?_ | refine r_orV ?_ | refine r_notV ?_ | refine r_ifE ?_ | refine r_chain ?_ | refine r_asg ?_
  | refine r_cb ?_ | refine r_cons ?_ | refine r_nil ?_ | refine r_call ?_ | refine r_par ?_ | refine r_tup ?_ | refine r_lst ?_
  | refine r_lc ?_ | refine r_dget ?_ | refine r_din ?_ | refine r_dnotin ?_ | refine r_dput ?_ | refine r_sl ?_ | refine r_part ?_ | refine r_nopart ?_ | refine r_for ?_ | refine r_iList ?_ | refine r_iTup ?_ | refine r_iStr ?_ | refine r_iKeys ?_ | refine r_rng1 ?_ | refine r_dsetd ?_ | refine r_dnew ?_ | refine r_bm ?_ | refine r_fldaug ?_ | refine r_fldset ?_ | refine r_dz ?_ | refine r_lz ?_ | refine r_gSub ?_ | refine r_dc ?_ | refine r_sc ?_ | refine r_iEnumB ?_ | refine r_iZipB ?_ | refine r_iRevA ?_ | refine r_yes1 ?_ | refine r_gName ?_ | refine r_gCons ?_ | refine r_gNil ?_
  | refine r_I0 ?_ | refine r_eq_str ?_ | refine r_eq_int ?_ | refine r_ne_str ?_ | refine r_ne_int ?_
  | refine r_isi_int_int ?_ | refine r_isi_int_bool ?_ | refine r_isi_str_str ?_ | refine r_isi_int_tup ?_ | refine r_isi_str_tup ?_)
local macro_rules | `(tactic| walk_at "rr") => `(tactic| repeat walk_at "r")
local macro_rules | `(tactic| walk_at "len") => `(tactic| (intro vs H Q E h; repeat (first | (obtain ⟨e, _⟩ := h; rw [e]; rfl) | (obtain ⟨_, h⟩ := h))))
local macro_rules | `(tactic| walk_at "ni") => `(tactic| first | exact ni0 | exact ni1 (by assumption) | exact ni2 (by assumption) (by assumption) | exact ni3 (by assumption) (by assumption) (by assumption))
local macro_rules | `(tactic| walk_at "sub") => `(tactic| first | (intro b hb; cases hb; done) | (intro b hb; exact hb) | (intro b hb; simp at hb ⊢; simp [hb]; done) | (intro b hb; simp at hb ⊢; omega))
local macro_rules | `(tactic| walk_at "kp") => `(tactic| first | assumption | exact Kp.refl _ _ | (refine Kp.step (by assumption) (by walk_at "sub") ?_; walk_at "kp"))
local macro_rules | `(tactic| walk_at "at") => `(tactic| first | assumption | (refine Kp.atT (by assumption) ?_; walk_at "at") | (refine Kp.at (by assumption) ?_ (by walk_at "ni"); walk_at "at"))
local macro_rules | `(tactic| walk_at "td") => `(tactic| first | assumption | exact TD.int _ | exact TD.str _ | exact TDs.nil | (refine TDs.cons ?_ ?_ <;> walk_at "td") | (refine TD.mk (by assumption) ?_; walk_at "td") | (refine TD.mono (by assumption) ?_; walk_at "td") | (refine TDs.mono (by assumption) ?_; walk_at "td"))
local macro_rules | `(tactic| walk_at "b") => `(tactic| first | rfl | decide +kernel | (simp <;> omega) | (simp [*] <;> omega))
local macro_rules | `(tactic| walk_at "if") => `(tactic| first | refine r_yes (by walk_at "b") ?_ | refine r_no (by walk_at "b") ?_)
local macro_rules | `(tactic| walk_at "go") => `(tactic| repeat (first | walk_at "r" | walk_at "if"))
local macro_rules | `(tactic| walk_at "pf") => `(tactic| repeat (fail_if_success (with_reducible refine r_for ?_); walk_at "r"))
local macro_rules | `(tactic| walk_at "pt") => `(tactic| repeat (fail_if_success (with_reducible refine r_ifS ?_); walk_at "r"))
local macro_rules | `(tactic| walk_at "wn") => `(tactic| refine r_no (decide_eq_false (by simp only [Tree.word]; decide +kernel)) ?_)
local macro_rules | `(tactic| walk_at "nx") => `(tactic| (walk_at "wn"; walk_at "rr"))
section
variable {P : Program} {w : World} {K : PySem.W.Frag} {mg : Str → Option Value} {base : Heap}
/-- a tree changed within: it is as good, and no greater -/
structure Chg (t u : Tree) : Prop where
  dep : ∀ n, Dep n t → Dep n u
  ok : AllT okN t → AllT okN u
  snd : ∀ (ar : Str → Option Nat) near, Snd ar near t → Snd ar near u
  sz : sz u ≤ sz t
theorem Chg.refl (t : Tree) : Chg t t := ⟨fun _ h => h, fun h => h, fun _ _ h => h, Nat.le_refl _⟩
structure LeafO (o : Tree) : Prop where
  subs : o.subs = []
  ok : okN o
  here : ∀ (ar : Str → Option Nat) near, here ar near o
  scop : ∀ near, scop o near = []
  sz : sz o = 1
theorem Chg.leaf (t : Tree) {o : Tree} (h : LeafO o) : Chg t o := by
  refine ⟨fun n d => ?_, fun _ => .mk h.ok (by rw [h.subs]; simp), fun ar near _ => .mk (h.here ar near) (by rw [h.scop]; simp), by rw [h.sz]; exact sz_pos t⟩
  cases d with
  | mk _ => exact .mk (by rw [h.subs]; simp)
theorem szs_le : ∀ {ts us : List Tree}, us.length = ts.length → (∀ (i : Nat) s u, ts[i]? = some s → us[i]? = some u → Chg s u) → szs us ≤ szs ts
  | [], [], _, _ => Nat.le_refl _
  | [], _ :: _, h, _ => by simp at h
  | _ :: _, [], h, _ => by simp at h
  | t :: ts, u :: us, hl, h => by
    have h0 := (h 0 t u rfl rfl).sz
    have h1 := szs_le (ts := ts) (us := us) (by simpa using hl) fun i s u a b => h (i + 1) s u (by simpa using a) (by simpa using b)
    simp only [szs]
    omega
theorem Chg.with_ {t : Tree} {us : List Tree} (hl : us.length = t.subs.length) (h : ∀ (i : Nat) s u, t.subs[i]? = some s → us[i]? = some u → Chg s u) : Chg t (withT t us) := by
  have hsz := szs_le hl h
  have mem : ∀ u ∈ us, ∃ s ∈ t.subs, Chg s u := fun u hu => by
    obtain ⟨i, hi⟩ := List.getElem?_of_mem hu
    have hlt := (List.getElem?_eq_some_iff.mp hi).1
    exact ⟨t.subs[i]'(by omega), List.getElem_mem _, h i _ u (List.getElem?_eq_getElem (by omega)) hi⟩
  have main : ∀ u : Tree, u.subs = us → (okN t → okN u) → (∀ (ar : Str → Option Nat) near, Tp.here ar near t → Tp.here ar near u) →
      (∀ near, ∀ q ∈ scop u near, ∃ s, (s, q.2) ∈ scop t near ∧ Chg s q.1) → Chg t u := fun u h1 h2 h3 h4 => by
    refine ⟨fun n d => ?_, fun ok => .mk (h2 ok.here) fun s hs => ?_, fun ar near sn => .mk (h3 ar near sn.here) fun q hq => ?_, ?_⟩
    · cases d with
      | mk d =>
        refine .mk fun s hs => ?_
        rw [h1] at hs
        obtain ⟨s0, hs0, c⟩ := mem s hs
        exact c.dep _ (d s0 hs0)
    · rw [h1] at hs
      obtain ⟨s0, hs0, c⟩ := mem s hs
      exact c.ok (ok.sub hs0)
    · obtain ⟨s, hs, c⟩ := h4 near q hq
      exact c.snd ar q.2 (sn.sub hs)
    · rw [szs_eq u, szs_eq t, h1]
      omega
  cases t with
  | num p i => exact Chg.refl _
  | nil p => exact Chg.refl _
  | use p x as =>
    refine main (.use p x us) rfl (fun a => ⟨a.1, a.2.1, by have := a.2.2; rw [show us.length = as.length from hl]; exact this⟩) (fun ar near a => ?_) (fun near q hq => ?_)
    · rcases a with ⟨a1, a2⟩ | ⟨a1, a2⟩
      · refine .inl ⟨a1, ?_⟩
        subst a2
        exact List.length_eq_zero_iff.mp hl
      · exact .inr ⟨a1, by rw [show us.length = as.length from hl]; exact a2⟩
    · simp only [scop, Tree.subs, List.mem_map] at hq
      obtain ⟨s, hs, rfl⟩ := hq
      obtain ⟨s0, hs0, c⟩ := mem s hs
      exact ⟨s0, by simp only [scop, List.mem_map]; exact ⟨s0, hs0, rfl⟩, c⟩
  | op p s l r =>
    match us, hl with
    | [a, b], _ =>
      refine main (.op p s a b) rfl (fun z => z) (fun _ _ z => z) (fun near q hq => ?_)
      simp only [scop, Tree.subs, List.map_cons, List.map_nil, List.mem_cons, List.not_mem_nil, or_false] at hq
      rcases hq with rfl | rfl
      · exact ⟨l, by simp [scop, Tree.subs], h 0 l a rfl rfl⟩
      · exact ⟨r, by simp [scop, Tree.subs], h 1 r b rfl rfl⟩
  | ite p c y n =>
    match us, hl with
    | [a, b, d], _ =>
      refine main (.ite p a b d) rfl (fun z => z) (fun _ _ z => z) (fun near q hq => ?_)
      simp only [scop, Tree.subs, List.map_cons, List.map_nil, List.mem_cons, List.not_mem_nil, or_false] at hq
      rcases hq with rfl | rfl | rfl
      · exact ⟨c, by simp [scop, Tree.subs], h 0 c a rfl rfl⟩
      · exact ⟨y, by simp [scop, Tree.subs], h 1 y b rfl rfl⟩
      · exact ⟨n, by simp [scop, Tree.subs], h 2 n d rfl rfl⟩
  | lt p x a b =>
    match us, hl with
    | [c, d], _ =>
      refine main (.lt p x c d) rfl (fun z => z) (fun _ _ z => z) (fun near q hq => ?_)
      simp only [scop, List.mem_cons, List.not_mem_nil, or_false] at hq
      rcases hq with rfl | rfl
      · exact ⟨a, by simp [scop], h 0 a c rfl rfl⟩
      · exact ⟨b, by simp [scop], h 1 b d rfl rfl⟩
  | cs p w e x y b =>
    match us, hl with
    | [c, d, f], _ =>
      refine main (.cs p c d x y f) rfl (fun z => z) (fun _ _ z => z) (fun near q hq => ?_)
      simp only [scop, List.mem_cons, List.not_mem_nil, or_false] at hq
      rcases hq with rfl | rfl | rfl
      · exact ⟨w, by simp [scop], h 0 w c rfl rfl⟩
      · exact ⟨e, by simp [scop], h 1 e d rfl rfl⟩
      · exact ⟨b, by simp [scop], h 2 b f rfl rfl⟩
def sp_chg (n : Nat) (f c' : Addr) (q : Str) (ov : V) (vs : List V) (H : Hp) (Q : VK) : Prop := ∃ (v : V) (t o : Tree) (m : Nat), vs = [v, .int (m : Int), .ref f] ∧ TD H v (tr t) ∧ Dep n t ∧ AllT okN t ∧ H c' = some (LamX.CodeO c' q) ∧ TD H ov (tr o) ∧ LeafO o ∧ n ≤ 10 ∧
  ∀ v' H' t', Kp [] H H' → TD H' v' (tr t') → Chg t t' → Q v' H'
theorem r_ch {sp : List V → Hp → VK → Prop} {t : TA} {σ : L2.St} {H : Hp} {Q : VK} (h : t σ H fun vs H1 => sp vs H1 Q) : tCh sp t σ H Q := h
theorem sc__law_changed : FnScope ["tree", "at", "deed", "trees", "first", "one", "many"] ["tree", "at", "deed"] (defScope s__law_changed) := ⟨rfl, rfl, rfl, by decide +kernel, rfl, by decide +kernel, by decide +kernel⟩
theorem c_law_changed0 (T : Txt K mg) : ChOk P w K mg base 12 1 (He.ga K "_law_changed") (sp_chg 0) :=
  ⟨fun A outer s H us vs Q fs0 H0 h0 f c' q ov hr e0 L D r h => by
    obtain ⟨_, _, _, _, _, _, d, _⟩ := h
    cases d⟩
theorem c_law_changed1 {n : Nat} (T : Txt K mg) (C__law_subs : Cal P w K mg base 1 "_law_subs" ["tree"] sp_subtrees) (C__law_count : Cal P w K mg base 12 "_law_count" ["tree"] (sp_law_count 10)) (C__law_with : Cal P w K mg base 1 "_law_with" ["tree", "trees"] sp_law_with)
    (C_ch : ChOk P w K mg base (n + 12) 1 (He.ga K "_law_changed") (sp_chg n)) : ChOk P w K mg base (n + 13) 1 (He.ga K "_law_changed") (sp_chg (n + 1)) := by
  obtain ⟨fd, F⟩ := T.F__law_changed
  have B := F.bindsN (ps := ["tree", "at", "deed"]) (fun _ _ _ _ _ _ us hl => match us, hl with | [_, _, _], _ => rfl)
  obtain ⟨oc, od, dV, kV, doc, pm, an, cdv, ct, osl, rfl, lk, hcd, _, _⟩ := id F.ex
  refine ⟨fun A outer s H us vs Q fs0 H0 h0 f c' q ov hr0 e0 L D r h => ?_⟩
  obtain ⟨v, t, o, m, rfl, hv, hdp, ok, hc, ho, lo, hn, qq⟩ := h
  have b := B s us (e0.mod.kin.keeps fun z u hz => (e0.bs z u hz).1) (by rw [List.append_nil, ← r.length]; rfl)
  rw [List.append_nil] at b
  refine LamX.run_ofS (N := ["tree", "at", "deed", "trees", "first", "one", "many"]) (ps := ["tree", "at", "deed"]) lk hcd sc__law_changed hr0 e0 b r rfl fun hr' => ?_
  have hr := hr'
  refine (fun h => ⟨h.choose, h.choose_spec.1.nox, h.choose_spec.2⟩ : (∃ t, PSs (cxOf CX0 P w K mg base ["tree", "at", "deed", "trees", "first", "one", "many"] "_law_changed" (defScope s__law_changed) (He.ga K "_law_changed") cdv A outer s H E0).nox (defBody s__law_changed) t ∧ t { nx := fun _ H' => Q .non H', rt := Q } (L2.start ["tree", "at", "deed", "trees", "first", "one", "many"] [v, .int (m : Int), .ref f]) H) → _) ?_
  refine ⟨_, (pss_cons (ps_if (pt_cmpR (op_eqXK (K := K) hr rfl) (pv 1) pe_int (nomark _)) (pss_one (ps_ret (pe_deed (i := 2) L rfl D (hr'.mono (by omega)) rfl (.inl rfl) (pa_cons (pv 0) pa_nil)))) pss_nil) (pss_cons (ps_set (i := 3) sc__law_changed.nd rfl (by first | exact Or.inl rfl | exact Or.inr rfl) (pe_lstK pa_nil)) (pss_cons (ps_set (i := 4) sc__law_changed.nd rfl (by first | exact Or.inl rfl | exact Or.inr rfl) pe_int) (pss_cons (ps_for PassesOwn.never rfl (pi_list (pe_cal C__law_subs hr (pa_cons (pv 0) pa_nil))) (pg_name (i := 5) sc__law_changed.nd rfl (by first | exact Or.inl rfl | exact Or.inr rfl)) (pss_cons (ps_set (i := 6) sc__law_changed.nd rfl (by first | exact Or.inl rfl | exact Or.inr rfl) (pe_cal C__law_count hr (pa_cons (pv 5) pa_nil))) (pss_cons (ps_expr (pe_bm PySem.F.plainAttrs_list PySem.F.slot_list_append PySem.F.type_list_append mt_append (pv 3) (pa_cons (pe_ifExp (PW.pt (pw_and (pt_cmpR op_le (pv 4) (pv 1) (nomark _)) (pw_and1 (pt_cmpR op_lt (pv 1) (pe_op op_add (pv 4) (pv 6)) (nomark _))))) (pe_ch C_ch hr' rfl T.g__law_changed F.kp L rfl D (pa_cons (pv 5) (pa_cons (pe_op op_sub (pv 1) (pv 4)) (pa_cons (pv 2) pa_nil)))) (pv 5)) pa_nil))) (pss_one (ps_set (i := 4) sc__law_changed.nd rfl (by first | exact Or.inl rfl | exact Or.inr rfl) (pe_op op_add (pv 4) (pv 6))))))) (pss_one (ps_ret (pe_cal C__law_with hr (pa_cons (pv 0) (pa_cons (pv 3) pa_nil))))))))), ?_⟩
  have few := subs_few ok.here
  walk_at "rr"
  by_cases hm : m = 0
  · refine r_yes (decide_eq_true (by omega)) ?_
    walk_at "rr"
    refine ⟨rfl, ?_⟩
    walk_at "rr"
    exact ⟨v, rfl, hc, qq ov H o (Kp.refl _ _) ho (Chg.leaf t lo)⟩
  refine r_no (decide_eq_false (by omega)) ?_
  walk_at "rr"
  refine ⟨by simp, fun tl H1 k1 n1 e1 => ?_⟩
  walk_at "rr"
  refine ⟨v, t, rfl, hv.mono k1, fun sl ys H2 k2 n2 e2 t2 => ?_⟩
  have hlen : ys.length = t.subs.length := by rw [t2.1, List.length_map]
  have k02 := k1.trans k2
  have sltl : sl ≠ tl := Ne.symm (ne_of_none e1 n2)
  have ctl : c' ≠ tl := ne_of_none hc n1
  have hc2 := k02.at hc ni0
  walk_at "rr"
  refine ⟨⟨_, SqL.of e2⟩, ?_⟩
  refine forW (walk_list (xs := ys)) (fun i σ H' => ∃ (g : Nat) (o5 o6 : Option V) (acc : List V) (us : List Tree), σ = [some v, some (.int (m : Int)), some (.ref f), some (.ref tl), some (.int (g : Int)), o5, o6] ∧ Kp [tl] H2 H' ∧ H' tl = some (.lst acc) ∧ TDs H' acc (us.map tr) ∧ us.length = i ∧ ∀ (j : Nat) s u, t.subs[j]? = some s → us[j]? = some u → Chg s u)
    ⟨1, none, none, [], [], rfl, Kp.refl _ _, k2.at e1 ni0, .nil, rfl, by simp⟩ ?_ ?_ ?_
  · rintro i σ H' _ ⟨_, _, _, _, _, _, k, _⟩
    exact SqL.of (k.at e2 (ni1 sltl))
  · rintro i z σ H0' H3 hi ⟨g, o5, o6, acc, us2, rfl, k3, e3, t3, ul, hch⟩ ⟨rfl, hz⟩
    obtain ⟨s1, hs1, his, hts⟩ := t2.map_get hz
    have tz := hts.mono k3
    have al : acc.length = i := by rw [t3.1, List.length_map, ul]
    walk_at "rr"
    refine ⟨z, s1, rfl, tz, (hdp.sub hs1).up (by omega), ok.sub hs1, fun H4 k4 => ?_⟩
    have e4 := k4.at e3 ni0
    have k34 : Kp [tl] H2 H4 := k3.trans (k4.mono (by simp))
    walk_at "rr"
    refine ⟨tyV_l e4, ?_⟩
    walk_at "rr"
    have fin : ∀ (v' : V) (H5 : Hp) (t' : Tree) (R : V → Hp → Prop), Kp [] H4 H5 → TD H5 v' (tr t') → Chg s1 t' → (∀ (x : V) (H6 : Hp) (acc2 : List V) (us3 : List Tree), Kp [tl] H2 H6 → H6 tl = some (.lst acc2) → TDs H6 acc2 (us3.map tr) → us3.length = i + 1 → (∀ (j : Nat) s u, t.subs[j]? = some s → us3[j]? = some u → Chg s u) → R x H6) → rAppend (.ref tl) [v'] H5 R := fun v' H5 t' R k5 tv' c hR => by
      have e5 := k5.at e4 ni0
      refine r_append e5 (by omega) ?_
      have kw : Kp [tl] H5 (upd H5 tl (.lst (acc ++ [v']))) := Kp.wr (by simp) e5 rfl
      refine hR _ _ (acc ++ [v']) (us2 ++ [t']) (k34.trans ((k5.mono (by simp)).trans kw)) upd_same ?_ (by simp [ul]) fun j s u hs hu => ?_
      · rw [List.map_append]
        exact (((t3.mono k4).mono k5).mono kw).snoc (tv'.mono kw)
      · rcases get_snoc hu with hu | ⟨e, rfl⟩
        · exact hch j s u hs hu
        · rw [e, ul, his] at hs
          cases hs
          exact c
    have eg : ∀ (b : Nat), (g : Int) + (b : Int) = ((g + b : Nat) : Int) := fun b => by omega
    by_cases h1 : g ≤ m
    · refine r_yes (decide_eq_true (by omega)) ?_
      walk_at "rr"
      by_cases h2 : m < g + sz s1
      · refine r_yes (decide_eq_true (by omega)) ?_
        refine r_ch ?_
        walk_at "rr"
        refine ⟨z, s1, o, m - g, by rw [show (m : Int) - (g : Int) = ((m - g : Nat) : Int) by omega], tz.mono k4, hdp.sub hs1, ok.sub hs1, k34.at hc2 (ni1 ctl), (ho.mono k02).mono k34, lo, by omega, fun v5 H5 t5 k5 tv5 c5 => ?_⟩
        walk_at "rr"
        refine fin v5 H5 t5 _ k5 tv5 c5 fun x H6 acc2 us3 k6 e6 t6 l6 c6 => ?_
        walk_at "rr"
        rw [eg]
        exact ⟨_, _, _, acc2, us3, rfl, k6, e6, t6, l6, c6⟩
      · refine r_no (decide_eq_false (by omega)) ?_
        walk_at "rr"
        refine fin z H4 s1 _ (Kp.refl _ _) (tz.mono k4) (Chg.refl _) fun x H6 acc2 us3 k6 e6 t6 l6 c6 => ?_
        walk_at "rr"
        rw [eg]
        exact ⟨_, _, _, acc2, us3, rfl, k6, e6, t6, l6, c6⟩
    · refine r_no (decide_eq_false (by omega)) ?_
      refine r_no rfl ?_
      walk_at "rr"
      refine fin z H4 s1 _ (Kp.refl _ _) (tz.mono k4) (Chg.refl _) fun x H6 acc2 us3 k6 e6 t6 l6 c6 => ?_
      walk_at "rr"
      rw [eg]
      exact ⟨_, _, _, acc2, us3, rfl, k6, e6, t6, l6, c6⟩
  · rintro σ H3 ⟨g, o5, o6, acc, us2, rfl, k3, e3, t3, ul, hch⟩
    rw [hlen] at ul
    walk_at "rr"
    have k03 := (k02.mono (M1 := [tl]) (by simp)).trans k3
    refine ⟨v, t, tl, acc, us2, rfl, hv.mono k03, e3, t3, ul, by omega, fun v4 H4 k4 t4 => ?_⟩
    walk_at "rr"
    exact qq v4 H4 _ ((k03.drop fun b hb => by simp at hb; simp [hb, n1]).trans k4) t4 (Chg.with_ ul hch)
theorem c_law_changed (T : Txt K mg) (C__law_subs : Cal P w K mg base 1 "_law_subs" ["tree"] sp_subtrees) (C__law_count : Cal P w K mg base 12 "_law_count" ["tree"] (sp_law_count 10)) (C__law_with : Cal P w K mg base 1 "_law_with" ["tree", "trees"] sp_law_with) : ∀ n, ChOk P w K mg base (n + 12) 1 (He.ga K "_law_changed") (sp_chg n)
  | 0 => c_law_changed0 T
  | n + 1 => c_law_changed1 T C__law_subs C__law_count C__law_with (c_law_changed T C__law_subs C__law_count C__law_with n)
end
end Tp
set_option Elab.async false
set_option linter.all false
set_option maxRecDepth 100000
set_option maxHeartbeats 4000000
namespace Tp
open PySem PySem.Spec PyProof.Rows L2

/-! ### set(a tuple of tuples of ints) -/
abbrev bare (w : World) : Obj := { cls := .type "set", dict := none, data := .set #[] 0 (.fresh 0 0 (!w.params.followText "set-order")) }
section
variable {P : Program} {w : World} {A : Around} {E : Value → Shared → Prop} {s : Shared}
/-- what the set's loop leaves behind -/
abbrev Left (P : Program) (w : World) (s : Shared) (ks : List (Addr × List Int)) (r : Value) (s2 : Shared) : Prop :=
  r = .none ∧ ∃ (h' : Heap) (tk : Nat) (L : List (Addr × List Int)) (es : Array (Int × Value)) (ep : Nat) (t : SetTable), s2 = { s with heap := h', toks := tk } ∧ SetTR P w h' s.heap.objs.size L es ep t ∧ Got ks ks.length L ∧ ∀ b o, s.heap.get? b = some o → h'.get? b = some o
set_option maxHeartbeats 3200000 in
theorem set_tup_tups {l : Addr} {items : Array Value} (ks : List (Addr × List Int)) {Q : Value → Shared → Prop} (hh : A.handled = none) (hl : s.heap.IsTuple l items) (hit : items.toList = ks.map fun p => Value.ref p.1) (hk : ∀ p ∈ ks, IsT P w s.heap p.2 p.1) (few : ks.length < 64) (room : A.units + 3 < cLine)
    (h : ∀ (h' : Heap) (tk : Nat) L es ep t, SetTR P w h' s.heap.objs.size L es ep t → Got ks ks.length L → (∀ b o, s.heap.get? b = some o → h'.get? b = some o) → Q (.ref s.heap.objs.size) { s with heap := h', toks := tk }) : wpAny (model P w) A (call (.type "set") [.ref l]) Q E s := by
  have size : items.size = ks.length := by rw [← Array.length_toList, hit, List.length_map]
  obtain ⟨_, _, mro⟩ := F.called_set.mro
  have made := F.called_set.made
  have sub0 := F.called_set.sub
  have notT := F.called_set.notType
  have canC := F.called_set.canCreate
  have tc := F.typeCall_set_1 (.ref l)
  refine wpAny_call (codeAny_of_tree (show wpAny _ _ (callAny (.type "set") _) _ _ _ from wpAny_pure ⟨Code.quiet_builtin _ (by decide +kernel), codeAny_builtin F.entry_type_call ?_⟩))
  rw [Around.under_plain (weight_type_call_type "set" [.ref l] []) rfl]
  repeat (any_goals (first | assumption | wp_step))
  refine codeAny_mono (code_set_led1 (.ref l) (E := E) (Q₁ := fun x s1 => x = .ref s.heap.objs.size ∧ s1 = { s with heap := s.heap.push (bare w) }) ⟨rfl, rfl⟩) fun r s1 hr => ?_
  match r, hr with
  | .ok (.ret x), hr =>
    obtain ⟨rfl, rfl⟩ := hr
    have at0 : (s.heap.push (bare w)).get? s.heap.objs.size = some (bare w) := Heap.get?_push_size _ rfl
    have ty : Shared.TypeIs { s with heap := s.heap.push (bare w) } (.ref s.heap.objs.size) "set" := ⟨_, at0, rfl⟩
    have li := F.called_set.init.lookup
    have bi := F.called_set.init.bind (.ref s.heap.objs.size)
    repeat (any_goals (first | assumption | wp_step))
    refine codeAny_mono (codeAny_call_builtin (R := wants (Left P w s ks) E) F.called_set.init.plain F.entry_set_init (check_set_init_1 ty ?_)) fun r2 s2 hr2 => ?_
    · obtain ⟨⟨oc, od, dt, sl⟩, hol, hc, nl, hd⟩ := hl
      simp only at hc hd
      subst hc hd
      have at1 : (s.heap.push (bare w)).get? l = some { cls := .type "tuple", dict := od, data := .seq items nl, slots := sl } := Heap.get?_push_of_some _ hol
      have s1 := F.sub_tuple_set
      have s2 := F.sub_tuple_frozenset
      have ne : (Value.type "tuple" == Value.type "dict") = false := by decide
      have tup1 : (s.heap.push (bare w)).IsTuple l items := ⟨_, at1, rfl, nl, rfl⟩
      unfold Builtin.«set.__init__» noKeywords Builtin.Frozenset.updateFrom
      generalize hPI : pyIter = PI
      wp_walk
      subst hPI
      refine wpAny_pyIter_tuple tup1 (wpAny_bind (wpAny_runValue ?_))
      have lt := Heap.lt_size hol
      have hh3 : A.in1.in1.in1.handled = none := by simp [hh]
      have sz1 : (s.heap.push (bare w)).objs.size = s.heap.objs.size + 1 := Heap.size_push ..
      have off : ∀ b, s.heap.objs.size ≤ b → s.heap.get? b = none := fun b hb => by
        cases e : s.heap.get? b with
        | none => rfl
        | some o => exact absurd (Heap.lt_size e) (Nat.not_lt.mpr hb)
      have nI : l ≠ (s.heap.push (bare w)).objs.size := by rw [sz1]; exact Nat.ne_of_lt (Nat.lt_succ_of_lt lt)
      have nS : s.heap.objs.size ∉ [(s.heap.push (bare w)).objs.size, l] := by
        rw [sz1]
        simp only [List.mem_cons, List.not_mem_nil, or_false, not_or]
        exact ⟨Nat.ne_of_lt (Nat.lt_succ_self _), Nat.ne_of_gt lt⟩
      have val : ∀ (i : Nat) (v : Value), items[i]? = some v → ∃ p, ks[i]? = some p ∧ v = .ref p.1 := fun i v hv => by
        rw [← Array.getElem?_toList, hit, List.getElem?_map] at hv
        obtain ⟨p, hp, e⟩ := Option.map_eq_some_iff.mp hv
        exact ⟨p, hp, e.symm⟩
      refine set_update_tups (Walks.tuple hh3 _ l nI items).toS s.heap.objs.size nS ks size few val s.heap hk (off _ (Nat.le_refl _)) (fun b hb => off b (by rw [List.mem_singleton.mp hb, sz1]; exact Nat.le_succ _)) room (items.size - 0) 0 _ (by omega) (Nat.zero_le _)
        ⟨⟨_, Heap.get?_push_size _ rfl, rfl, rfl⟩, tup1.push _⟩ (fun b o e => Heap.get?_push_of_some _ (Heap.get?_push_of_some _ e)) ⟨[], #[], 0, _, setTR_fresh (Heap.get?_push_of_some _ at0), Got.zero ks⟩ ?_
      rintro ⟨h', g2, d', tk', os'⟩ L es ep t mv hS' got kp
      have e1 : g2 = s.gens := mv.gens
      have e2 : d' = s.drawn := mv.drawn
      have e3 : os' = s.os := mv.os
      subst e1 e2 e3
      rw [size] at got
      exact wpAny_pure (show wpAny _ _ (ret Value.none) _ _ _ from wpAny_pure ⟨rfl, h', tk', L, es, ep, t, rfl, hS', got, kp⟩)
    · match r2, hr2 with
      | .error e, hr2 => exact hr2
      | .ok (.ret x2), hr2 =>
        obtain ⟨rfl, h', tk, L, es, ep, t, rfl, hS', got, kp⟩ := hr2
        repeat (any_goals (first | assumption | wp_step))
        exact h _ _ _ _ _ _ hS' got kp
  | .error e, hr => exact hr
end
/-- set(t), t a tuple of places -/
def rSetPl (P : Program) (w : World) : List V → Hp → VK → Prop := fun vs H Q => ∃ (x : V) (ps : List Pl), vs = [x] ∧ TD H x (.tuple (ps.map pl)) ∧ ps.length ≤ 62 ∧ ∀ D S H', Kp [] H H' → H D = none → SetP P w H' D S → (∀ q, q ∈ S ↔ q ∈ ps) → Q (.ref D) H'
theorem pls_refs {H : Hp} : ∀ {ps : List Pl} {xs : List V}, TDs H xs (ps.map pl) → ∃ ks : List (Addr × List Int), xs = ks.map (fun p => V.ref p.1) ∧ ks.map (·.2) = ps.map keyP ∧ ∀ p ∈ ks, ∃ q ∈ ps, H p.1 = some (.tup [.int q.1, .int q.2]) ∧ p.2 = keyP q
  | [], xs, t => ⟨[], by simpa using t.nil_inv, rfl, by simp⟩
  | q :: ps, xs, t => by
    obtain ⟨y, ys, rfl, h1, h2⟩ := TDs.cons_inv (show TDs H xs (pl q :: ps.map pl) from t)
    obtain ⟨x, rfl, hx⟩ := h1.pl_inv
    obtain ⟨ks, rfl, e2, h3⟩ := pls_refs h2
    refine ⟨(x, keyP q) :: ks, rfl, by simp [e2], fun p hp => ?_⟩
    rcases List.mem_cons.mp hp with rfl | hp
    · exact ⟨q, by simp, hx, rfl⟩
    · obtain ⟨q', h4, h5⟩ := h3 p hp
      exact ⟨q', by simp [h4], h5⟩
theorem cr_setPl {X : Cx} (hc : X.calm = true) (hu : X.A.units + 64 < cLine) : CallR X (.type "set") (rSetPl X.prog X.w) := by
  intro pins s σ H vs us Q I r h
  obtain ⟨x, ps, rfl, hx, hl, q⟩ := h
  obtain ⟨a, xs, rfl, ha, ts⟩ := hx.inv
  obtain ⟨ks, rfl, e2, hks⟩ := pls_refs ts
  rw [Vals.ref1 r]
  obtain ⟨its, rv, tp, hz⟩ := I.tuple (SqT.of ha)
  have kl : ks.length = ps.length := by
    have := congrArg List.length e2
    simpa using this
  have nn : H s.heap.objs.size = none := I.hok.fresh (Nat.le_refl _)
  refine set_tup_tups (P := X.prog) (w := X.w) ks (I.ok.hd hc) tp (by simpa using refs_of_vals rv) (fun p hp => ?_) (by omega) (by omega) fun h' tk L es ep t R g k => ?_
  · obtain ⟨q', _, h1, h2⟩ := hks p hp
    exact I.isT (by rw [h2]; exact SqT.of h1)
  · have kw : Kp [] H (upd H s.heap.objs.size (SetTO X.prog X.w s.heap.objs.size L)) := Kp.new nn
    have sub : ∀ p ∈ L, p ∈ ks := fun p hp => List.mem_of_mem_take (g.sub p hp)
    refine ⟨.ref s.heap.objs.size, _, I.laid (t' := tk) k (Nat.le_refl _) (setTO_new R.t0), rfl, q _ ps _ kw nn ⟨L, upd_same, fun p hp => ?_, fun q' hq' => ?_, R.nd⟩ fun _ => Iff.rfl⟩
    · obtain ⟨q', h0, h1, h2⟩ := hks p (sub p hp)
      exact ⟨q', h0, kw.atT h1, h2⟩
    · have : keyP q' ∈ ks.map (·.2) := by
        rw [e2]
        exact List.mem_map_of_mem hq'
      obtain ⟨p, hp, e⟩ := List.mem_map.mp this
      rw [← e]
      exact g.all p (by rw [List.take_length]; exact hp)
end Tp
set_option Elab.async false
set_option linter.all false
set_option maxRecDepth 100000
set_option maxHeartbeats 4000000
set_option pp.maxSteps 500
set_option pp.deepTerms false
namespace Tp
open PySem PySem.Spec PyProof.Rows L2
local macro_rules | `(tactic| walk_at "r") => `(tactic| with_reducible first
  | refine r_seq ?_ | refine r_set ?_ | refine r_ret ?_ | refine r_ifS ?_ | refine r_drop ?_ | refine r_next ?_ | refine r_nx ?_ | refine r_rt ?_
  | refine r_var rfl ?_ | refine r_c ?_ | refine r_op ?_ | refine r_test ?_ | refine r_B ?_ | refine r_exbl ?_ | refine r_exstr ?_ | refine r_exref ?_ | refine r_exint ?_ | refine r_ex2 ?_ | refine r_not ?_ | refine r_and ?_ | refine r_or ?_
  | refine r_andV ?_ | refine r_orV ?_ | refine r_notV ?_ | refine r_ifE ?_ | refine r_chain ?_ | refine r_asg ?_
  | refine r_cb ?_ | refine r_cons ?_ | refine r_nil ?_ | refine r_call ?_ | refine r_par ?_ | refine r_tup ?_ | refine r_lst ?_
  | refine r_lc ?_ | refine r_dget ?_ | refine r_din ?_ | refine r_dnotin ?_ | refine r_dput ?_ | refine r_sl ?_ | refine r_part ?_ | refine r_nopart ?_ | refine r_for ?_ | refine r_iList ?_ | refine r_iTup ?_ | refine r_iStr ?_ | refine r_iKeys ?_ | refine r_rng1 ?_ | refine r_dsetd ?_ | refine r_dnew ?_ | refine r_bm ?_ | refine r_fldaug ?_ | refine r_fldset ?_ | refine r_dz ?_ | refine r_lz ?_ | refine r_gSub ?_ | refine r_dc ?_ | refine r_sc ?_ | refine r_iEnumB ?_ | refine r_iZipB ?_ | refine r_iRevA ?_ | refine r_yes1 ?_ | refine r_gName ?_ | refine r_gCons ?_ | refine r_gNil ?_
  | refine r_I0 ?_ | refine r_eq_str ?_ | refine r_eq_int ?_ | refine r_ne_str ?_ | refine r_ne_int ?_
  | refine r_isi_int_int ?_ | refine r_isi_int_bool ?_ | refine r_isi_str_str ?_ | refine r_isi_int_tup ?_ | refine r_isi_str_tup ?_)
local macro_rules | `(tactic| walk_at "rr") => `(tactic| repeat walk_at "r")
local macro_rules | `(tactic| walk_at "len") => `(tactic| (intro vs H Q E h; repeat (first | (obtain ⟨e, _⟩ := h; rw [e]; rfl) | (obtain ⟨_, h⟩ := h))))
local macro_rules | `(tactic| walk_at "ni") => `(tactic| first | exact ni0 | exact ni1 (by assumption) | exact ni2 (by assumption) (by assumption) | exact ni3 (by assumption) (by assumption) (by assumption))
local macro_rules | `(tactic| walk_at "sub") => `(tactic| first | (intro b hb; cases hb; done) | (intro b hb; exact hb) | (intro b hb; simp at hb ⊢; simp [hb]; done) | (intro b hb; simp at hb ⊢; omega))
local macro_rules | `(tactic| walk_at "kp") => `(tactic| first | assumption | exact Kp.refl _ _ | (refine Kp.step (by assumption) (by walk_at "sub") ?_; walk_at "kp"))
local macro_rules | `(tactic| walk_at "at") => `(tactic| first | assumption | (refine Kp.atT (by assumption) ?_; walk_at "at") | (refine Kp.at (by assumption) ?_ (by walk_at "ni"); walk_at "at"))
local macro_rules | `(tactic| walk_at "td") => `(tactic| first | assumption | exact TD.int _ | exact TD.str _ | exact TDs.nil | (refine TDs.cons ?_ ?_ <;> walk_at "td") | (refine TD.mk (by assumption) ?_; walk_at "td") | (refine TD.mono (by assumption) ?_; walk_at "td") | (refine TDs.mono (by assumption) ?_; walk_at "td"))
local macro_rules | `(tactic| walk_at "b") => `(tactic| first | rfl | decide +kernel | (simp <;> omega) | (simp [*] <;> omega))
local macro_rules | `(tactic| walk_at "if") => `(tactic| first | refine r_yes (by walk_at "b") ?_ | refine r_no (by walk_at "b") ?_)
local macro_rules | `(tactic| walk_at "go") => `(tactic| repeat (first | walk_at "r" | walk_at "if"))
local macro_rules | `(tactic| walk_at "pf") => `(tactic| repeat (fail_if_success (with_reducible refine r_for ?_); walk_at "r"))
local macro_rules | `(tactic| walk_at "pt") => `(tactic| repeat (fail_if_success (with_reducible refine r_ifS ?_); walk_at "r"))
local macro_rules | `(tactic| walk_at "wn") => `(tactic| refine r_no (decide_eq_false (by simp only [Tree.word]; decide +kernel)) ?_)
local macro_rules | `(tactic| walk_at "nx") => `(tactic| (walk_at "wn"; walk_at "rr"))
section
variable {P : Program} {w : World} {K : PySem.W.Frag} {mg : Str → Option Value} {base : Heap}
theorem TD.monoT {H H' : Hp} {v : V} {d : PyData} (k : ∀ b xs, H b = some (.tup xs) → H' b = some (.tup xs)) (h : TD H v d) : TD H' v d := by
  induction h with
  | int i => exact .int i
  | str x => exact .str x
  | tup h1 h2 _ ih => exact .tup (k _ _ h1) h2 ih
theorem SqL.on {H H' : Hp} {a : Addr} {xs : List V} (h : SqL K H a xs) (k : ∀ u, H a = some u → (∀ ps, u ≠ .tbl ps) → H' a = some u) : SqL K H' a xs := by
  rcases h with (h | ⟨o, h⟩) | h
  · exact .inl (.inl (k _ h (by simp)))
  · exact .inl (.inr ⟨o, k _ h (by simp)⟩)
  · exact .inr h
/-- the places at which rows are looked for -/
theorem any_pl {q : Pl} : ∀ ps : List Pl, ((ps.map pl).any fun z => PyData.eqv z (pl q)) = decide (q ∈ ps)
  | [] => by simp
  | p :: ps => by
    have ih := any_pl (q := q) ps
    rw [List.map_cons, List.any_cons, ih, pl_eqv]
    by_cases h : p = q
    · simp [h]
    · have h' : q ≠ p := fun e => h e.symm
      simp [h, h']
theorem pls_lay : ∀ ps : List Pl, PyData.canLayAll0 (ps.map pl) = true
  | [] => by simp [PyData.canLayAll0]
  | p :: ps => by simp [PyData.canLayAll0, pl_lay, pls_lay ps]
theorem r_in_pls {H : Hp} {Q : VK} {x y : V} {q : Pl} {ps : List Pl} (h1 : TD H x (pl q)) (h2 : TD H y (.tuple (ps.map pl))) (k : Q (.bl (decide (q ∈ ps))) H) : rInT K false x y H Q :=
  r_inT h1 h2 (pl_lay q) (pls_lay ps) (by rw [pl_dep]; omega) (by rw [any_pl]; exact k)
/-- lists of places compared -/
theorem r_ne_lpls {H : Hp} {Q : VK} {l p : Addr} {xs ys : List V} {ps : List Pl} (h : H l = some (.lst xs)) (h1 : TDs H xs (ps.map pl)) (hp : H p = some (.lst ys)) (h2 : TDs H ys (ps.map pl)) (q : Q (.bl false) H) : rNeX K (.ref l) (.ref p) H Q := by
  have d2 : PyData.depth (.list (ps.map pl)) ≤ 200 := by
    have : ∀ zs : List Pl, PyData.depthAll (zs.map pl) ≤ 1 := by
      intro zs
      induction zs with
      | nil => simp [PyData.depthAll]
      | cons z zs ih => simp [PyData.depthAll, pl_dep]; omega
    have := this ps
    simp [PyData.depth]
    omega
  have e : ∀ zs : List Pl, PyData.eqvAll (zs.map pl) (zs.map pl) = true := by
    intro zs
    induction zs with
    | nil => simp [PyData.eqvAll]
    | cons z zs ih => simp [PyData.eqvAll, pl_eqv, ih]
  refine .inr ⟨.list (ps.map pl), .list (ps.map pl), .lst (SqL.of h) h1.dpAll, .lst (SqL.of hp) h2.dpAll, by simp [PyData.canLay0, pls_lay], by simp [PyData.canLay0, pls_lay], by omega, ?_⟩
  have e2 : PyData.eqv (.list (ps.map pl)) (.list (ps.map pl)) = true := by simp [PyData.eqv, e]
  simp only [e2, if_true]
  exact q
/-- a program in which a body was changed -/
theorem Chg.pg {d : Df} {p : List Df} {t : Tree} (g : PG (d :: p)) (c : Chg d.body t) : PG ({ d with body := t } :: p) := by
  have ea : arL ({ d with body := t } :: p) = arL (d :: p) := by
    funext x
    rw [arL_cons, arL_cons]
  refine ⟨by simp, by have := g.few; simpa using this, ⟨by have := g.sound.few; simpa using this, fun e he => ?_, by have := g.sound.names; simpa using this, fun e he => ?_, fun e he => ?_⟩, ?_⟩
  · rcases List.mem_cons.mp he with rfl | he
    · have o := g.sound.ok d (by simp)
      exact ⟨o.p, o.name, o.few, o.params, c.dep _ o.dep, c.ok o.body⟩
    · exact g.sound.ok e (by simp [he])
  · rcases List.mem_cons.mp he with rfl | he
    · exact g.sound.params d (by simp)
    · exact g.sound.params e (by simp [he])
  · rw [ea]
    rcases List.mem_cons.mp he with rfl | he
    · exact c.snd _ _ (g.sound.snd d (by simp))
    · exact g.sound.snd e (by simp [he])
  · have := g.size
    have := c.sz
    simp only [szP, List.map_cons, List.sum_cons] at *
    omega
/-- what the law's solving is given -/
theorem rows_fit {p : List Df} (g : PG p) {rs' : List Row} (S : SameR rs' ((rsP p).map shR)) : ctP p ≤ 190 ∧ rs'.length ≤ 800 ∧ ∀ r ∈ rs', (r.2.1.dp ≤ 1 ∧ inN (ctP p) r.2.1) ∧ r.2.2.dp ≤ 1 ∧ inN (ctP p) r.2.2 := by
  have hd : ∀ d ∈ p, Dep 10 d.body := fun d hd => (g.sound.ok d hd).dep
  obtain ⟨h1, h2⟩ := rsP_lt hd
  have h3 : (p.map fun d => d.params.length + 1).sum ≤ 5 * p.length := by
    have : ∀ l : List Df, (∀ d ∈ l, d.params.length ≤ 4) → (l.map fun d => d.params.length + 1).sum ≤ 5 * l.length := by
      intro l
      induction l with
      | nil => intro _; simp
      | cons d l ih =>
        intro h
        have := ih fun e he => h e (by simp [he])
        have := h d (by simp)
        simp only [List.map_cons, List.sum_cons, List.length_cons]
        omega
    exact this p fun d hd => (g.sound.ok d hd).few
  have h4 := g.few
  have h5 := g.size
  have h6 := S.len
  have h7 := genDs_len (tbP p) p (hdP p) (heads p 0).2
  have one : ∀ k : Kd, ltK (ctP p) k → inN (ctP p) (sh k) := fun k h n e => by
    have := h _ (kend_sh k n e)
    omega
  refine ⟨by omega, ?_, fun r hr => ?_⟩
  · rw [List.length_map] at h6
    unfold rsP at h6
    omega
  · rcases (S.iff r).mp (.inl hr) with h | h
    · obtain ⟨r0, hr0, rfl⟩ := List.mem_map.mp h
      have a1 := rsP_good p r0 hr0
      have a2 := h2 r0 hr0
      exact ⟨⟨by show (sh r0.2.1).dp ≤ 1; rw [sh_dp]; exact a1.2.1, one _ a2.1⟩, by show (sh r0.2.2).dp ≤ 1; rw [sh_dp]; exact a1.2.2, one _ a2.2⟩
    · obtain ⟨r0, hr0, e⟩ := List.mem_map.mp h
      have a1 := rsP_good p r0 hr0
      have a2 := h2 r0 hr0
      have e1 : r.2.1 = sh r0.2.2 := congrArg (fun z : Row => z.2.2) e.symm
      have e2 : r.2.2 = sh r0.2.1 := congrArg (fun z : Row => z.2.1) e.symm
      rw [e1, e2, sh_dp, sh_dp]
      exact ⟨⟨a1.2.2, one _ a2.2⟩, a1.2.1, one _ a2.1⟩
theorem uni_sat {p : List Df} {rs' : List Row} (S : SameR rs' ((rsP p).map shR)) (keep : Pl → Bool) : Uni ((rs'.filter fun r => keep r.1).map (·.2)) ↔ Sat (atP (rsP p) keep) :=
  uni_rows.trans ((S.sat keep).trans (sat_sh keep))
def lamQ : Str := (envOfC "law" (defScope s_law) 0 0 .none).qual ++ "<lambda>"
def sp_law (PT : Addr) : Sp := fun vs H Q _ => ∃ (a : Addr) (ns : List Int), vs = [.ref a] ∧ SqL K H a (ns.map V.int) ∧ ns.length ≤ 63 ∧ LamX.Tabs [(PT, lamQ)] H ∧ ∀ H', Q (.bl true) H'
end
section
variable {P : Program} {w : World} {K : PySem.W.Frag} {mg : Str → Option Value} {base : Heap}
theorem r_lam3 {T : List (Addr × Str)} {q : Str} {j : Nat} {sp : Addr → Addr → Str → V → List V → Hp → VK → Prop} {t1 t2 : TE} {σ : L2.St} {H : Hp} {Q : VK} (h : t1 σ H fun x1 H1 => t2 σ H1 fun x2 H2 => ∃ ov, σ[j]? = some (some ov) ∧ LamX.Tabs T H2 ∧
  ∀ (f c' : Addr) (H3 : Hp), LamX.ExtN H2 H3 → LamX.Tabs T H3 → H3 c' = some (LamX.CodeO c' q) → sp f c' q ov [x1, x2, .ref f] H3 Q) : tLam3 T q j sp t1 t2 σ H Q := h
/-- [row[1:] for row in rows if ..] -/
theorem rows_lc {H1 : Hp} {l : Addr} {rs : List Row} {σ : L2.St} {i : Nat} {Q : VK} {tt : TT} {te : TE} {keep : Pl → Bool} (R : RwAt H1 l rs) (few : rs.length ≤ 800) (hw : ∀ y, wipe ((wipe σ [i]).set i (some y)) [i] = wipe σ [i])
    (ht : ∀ (y : V) (r : Row) (H' : Hp) (Q' : Bool → Hp → Prop), Kp [] H1 H' → TD H' y (rowD r) → Q' (keep r.1) H' → tt ((wipe σ [i]).set i (some y)) H' Q')
    (he : ∀ (y : V) (r : Row) (H' : Hp) (Q' : VK), Kp [] H1 H' → TD H' y (rowD r) → (∀ z H2, Kp [] H' H2 → TD H2 z (prD r.2) → Q' z H2) → te ((wipe σ [i]).set i (some y)) H' Q')
    (q : ∀ D0 H', Kp [] H1 H' → H1 D0 = none → PrAt H' D0 ((rs.filter fun r => keep r.1).map (·.2)) → Q (.ref D0) H') : LcB (Itl K l) (gName i) tt te [i] σ H1 Q := by
  obtain ⟨xs, hl, ts⟩ := R
  have hlen : xs.length = rs.length := by rw [ts.1, List.length_map]
  refine lcW (walk_list (xs := xs)) (by omega) [] (fun j acc H' => TDs H' acc ((((rs.take j).filter fun r => keep r.1).map (·.2)).map prD)) (fun H2 k => SqL.of (k.at hl ni0)) (fun _ _ _ _ => .nil) ?_ ?_
  · rintro j x D acc H2 H3 hj hD hl3 k3 hdd ta ⟨rfl, hx⟩
    obtain ⟨r, hr, hjr, htr⟩ := ts.map_get hx
    have tr3 := htr.mono k3
    refine r_gName ⟨hw x, ht x r _ _ k3 tr3 ?_⟩
    have step : (rs.take (j + 1)).filter (fun r => keep r.1) = (rs.take j).filter (fun r => keep r.1) ++ (if keep r.1 = true then [r] else []) := by
      rw [take_snoc2 hjr, List.filter_append]
      by_cases hk : keep r.1 = true <;> simp [hk]
    by_cases hk : keep r.1 = true
    · refine r_yes hk (he x r _ _ k3 tr3 fun z H4 k4 t4 => ?_)
      refine lc_fin hD (by omega) hl3 (k3.trans k4) (k4.at hdd ni0) fun H5 k5 => ?_
      show TDs _ _ ((((rs.take (j + 1)).filter fun r => keep r.1).map (·.2)).map prD)
      rw [step, if_pos hk, List.map_append, List.map_append]
      exact ((ta.mono k4).snoc t4).mono k5
    · refine r_no (by simpa using hk) ⟨acc, by omega, k3, hdd, ?_⟩
      show TDs _ _ ((((rs.take (j + 1)).filter fun r => keep r.1).map (·.2)).map prD)
      rw [step, if_neg hk, List.append_nil]
      exact ta
  · intro D acc H2 hD _ k2 hdd ta
    rw [hlen, List.take_length] at ta
    exact q D H2 k2 hD ⟨acc, hdd, ta⟩
/-- two rising lists of the same places are one -/
theorem rise_uniq : ∀ {ps qs : List Pl}, ps.Pairwise ltP → qs.Pairwise ltP → (∀ z, z ∈ ps ↔ z ∈ qs) → ps = qs
  | [], [], _, _, _ => rfl
  | [], q :: qs, _, _, h => by
    have := (h q).mpr (by simp)
    cases this
  | p :: ps, [], _, _, h => by
    have := (h p).mp (by simp)
    cases this
  | p :: ps, q :: qs, h1, h2, h => by
    obtain ⟨a1, a2⟩ := List.pairwise_cons.mp h1
    obtain ⟨b1, b2⟩ := List.pairwise_cons.mp h2
    have irr : ∀ x y : Pl, ltP x y → x ≠ y := fun x y hxy e => by
      rw [e] at hxy
      unfold ltP at hxy
      omega
    have e : p = q := by
      rcases List.mem_cons.mp ((h p).mp (by simp)) with e | hp
      · exact e
      · rcases List.mem_cons.mp ((h q).mpr (by simp)) with e | hq
        · exact e.symm
        · have x1 := b1 p hp
          have x2 := a1 q hq
          unfold ltP at x1 x2
          omega
    subst e
    refine congrArg _ (rise_uniq a2 b2 fun z => ?_)
    have := h z
    simp only [List.mem_cons] at this
    constructor
    · intro hz
      rcases this.mp (.inr hz) with e | hz'
      · exact absurd e.symm (irr p z (a1 z hz))
      · exact hz'
    · intro hz
      rcases this.mpr (.inr hz) with e | hz'
      · exact absurd e.symm (irr p z (b1 z hz))
      · exact hz'
theorem clash_few {p : List Df} {ps : List Pl} (g : PG p) (c : Clash (rsP p) ps) : ps.length ≤ 62 ∧ ∀ q ∈ ps, okPl q := by
  have inp : ∀ q ∈ ps, q ∈ plsP p := fun q hq => by
    obtain ⟨r, hr, e⟩ := c.from_ q hq
    rw [← e]
    exact (rsP_good p r hr).1
  have nd : ps.Nodup := c.sorted.imp fun {a b} h e => by
    rw [e] at h
    unfold ltP at h
    omega
  have h1 := nodup_len ps (plsP p) nd inp
  rw [plsP_len] at h1
  have := g.size
  exact ⟨by omega, fun q hq => plsP_ok g.sound q (inp q hq)⟩
theorem leaf_nil : LeafO (.nil (70, 1)) := ⟨rfl, by show okPl (70, 1); unfold okPl; decide, fun _ _ => trivial, fun _ => rfl, by simp [sz]⟩
theorem leaf_num : LeafO (.num (70, 1) 3) := ⟨rfl, ⟨by unfold okPl; decide, by decide, by decide⟩, fun _ _ => trivial, fun _ => rfl, by simp [sz]⟩
end
section
variable {P : Program} {w : World} {K : PySem.W.Frag} {mg : Str → Option Value} {base : Heap}
theorem sc_law : FnScope ["script", "k", "draws", "program", "heads", "body", "count", "other", "one", "found", "rows", "others", "places", "row", "place"] ["script"] (defScope s_law) := ⟨rfl, rfl, rfl, by decide +kernel, rfl, by decide +kernel, by decide +kernel⟩
theorem c_law (T : Txt K mg) {PT cc : Addr} (C__law_draws : Cal P w K mg base 1 "_law_draws" ["script", "k"] (sp_law_draws (K := K))) (C__law_draw : Cal P w K mg base 1 "_law_draw" ["draws", "many"] sp_law_draw) (C__law_program : Cal P w K mg base 12 "_law_program" ["draws", "size", "deep"] sp_law_program) (C__law_count : Cal P w K mg base 12 "_law_count" ["tree"] (sp_law_count 10))
    (C_ch : ChOk P w K mg base 22 1 (He.ga K "_law_changed") (sp_chg 10)) (C_kinds : Cal P w K mg base 203 "kinds" ["program"] sp_kinds) (C__law_demands : Cal P w K mg base 15 "_law_demands" ["program"] sp_law_demands) (C__law_solved : Cal P w K mg base 203 "_law_solved" ["rows"] sp_law_solved)
    (hcc : He.codeOf K ("law", none) = cc) (TB : LamX.TabB base mg cc PT) {fd : FuncData} (F : FunD K "law" "law" (defArgs s_law) (defBody s_law) (defScope s_law) [] [] (He.ga K "law") fd) : FnOk P w K mg base CX0 204 (He.ga K "law") fd ["script"] (sp_law (K := K) PT) := by
  have kpc : PySem.W.keepIn K (.ref (He.ga K "_law_changed")) = true := T.F__law_changed.elim fun _ F => F.kp
  obtain ⟨oc, od, dV, kV, doc, pm, an, cdv, ct, osl, rfl, lk, hcd, _, _⟩ := id F.ex
  obtain ⟨c1, rfl⟩ := He.codeIn_ref hcd
  have ec : c1 = cc := by
    rw [← hcc]
    exact (He.codeOf_eq (p := ("law", none)) lk rfl).symm
  subst ec
  refine fn_of (N := ["script", "k", "draws", "program", "heads", "body", "count", "other", "one", "found", "rows", "others", "places", "row", "place"]) lk hcd sc_law (by walk_at "len") fun A outer s H vs Q E hr' h => ?_
  have hr := hr'
  obtain ⟨a, ns, rfl, hsq, hns, hT, q⟩ := h
  refine (fun h => ⟨h.choose, h.choose_spec.1.nox, h.choose_spec.2⟩ : (∃ t, PSs (cxOf CX0 P w K mg base ["script", "k", "draws", "program", "heads", "body", "count", "other", "one", "found", "rows", "others", "places", "row", "place"] "law" (defScope s_law) (He.ga K "law") (.ref c1) A outer s H E).nox (defBody s_law) t ∧ t { nx := fun _ H' => Q .non H', rt := Q } (L2.start ["script", "k", "draws", "program", "heads", "body", "count", "other", "one", "found", "rows", "others", "places", "row", "place"] [.ref a]) H) → _) ?_
  refine ⟨_, (pss_cons (ps_for PassesOwn.never rfl (pi_range1 rfl T.b_range (pa_cons (pe_callB (call_max2 rfl) (by rfl) T.b_max (by decide +kernel) (pa_cons pe_int (pa_cons (pe_callB (call_min2 rfl) (by rfl) T.b_min (by decide +kernel) (pa_cons pe_int (pa_cons (pe_callB (call_lenKK (K := K) rfl) (by rfl) T.b_len PySem.boot_len (pa_cons (pv 0) pa_nil)) pa_nil))) pa_nil))) pa_nil)) (pg_name (i := 1) sc_law.nd rfl (by first | exact Or.inl rfl | exact Or.inr rfl)) (pss_cons (ps_set (i := 2) sc_law.nd rfl (by first | exact Or.inl rfl | exact Or.inr rfl) (pe_cal C__law_draws hr (pa_cons (pv 0) (pa_cons (pv 1) pa_nil)))) (pss_cons (ps_asg (pe_cal C__law_program hr (pa_cons (pv 2) (pa_cons pe_int (pa_cons pe_int pa_nil)))) (pg_tup rfl (pgs_cons (pg_name (i := 3) sc_law.nd rfl (by first | exact Or.inl rfl | exact Or.inr rfl)) (pgs_cons (pg_name (i := 4) sc_law.nd rfl (by first | exact Or.inl rfl | exact Or.inr rfl)) pgs_nil)))) (pss_cons (ps_set (i := 5) sc_law.nd rfl (by first | exact Or.inl rfl | exact Or.inr rfl) (pe_ix (ix_seqK (K := K) rfl) (pe_ix (ix_seqK (K := K) rfl) (pv 3) pe_int (fun _ _ => rfl)) pe_int (fun _ _ => rfl))) (pss_cons (ps_set (i := 6) sc_law.nd rfl (by first | exact Or.inl rfl | exact Or.inr rfl) (pe_cal C__law_count hr (pa_cons (pv 5) pa_nil))) (pss_cons (ps_set (i := 7) sc_law.nd rfl (by first | exact Or.inl rfl | exact Or.inr rfl) (pe_ix (ix_seqK (K := K) rfl) (pe_lstK (pa_cons (pe_tupK (pa_cons pe_str (pa_cons (pe_tupK (pa_cons pe_int (pa_cons pe_int pa_nil))) pa_nil))) (pa_cons (pe_tupK (pa_cons pe_str (pa_cons (pe_tupK (pa_cons pe_int (pa_cons pe_int pa_nil))) (pa_cons pe_int pa_nil)))) pa_nil))) (pe_cal C__law_draw hr (pa_cons (pv 2) (pa_cons pe_int pa_nil))) (fun _ _ => rfl))) (pss_cons (ps_set (i := 5) sc_law.nd rfl (by first | exact Or.inl rfl | exact Or.inr rfl) (pe_lam3 (T := [(PT, lamQ)]) (jj := 7) C_ch (hr'.mono (by decide)) rfl T.g__law_changed kpc TB rfl (by exact List.mem_singleton.mpr rfl) (fun z hz _ => by rw [List.mem_singleton.mp hz]; rfl) (NdefX.nscope_by (by decide +kernel)) (NdefX.ndef_free (sc := defScope s_law) (fr := ["other"]) (by decide +kernel)) rfl rfl (fun _ _ _ _ _ _ => rfl) (pv 5) (pe_cal C__law_draw hr (pa_cons (pv 2) (pa_cons (pv 6) pa_nil))) rfl)) (pss_one (ps_for PassesOwn.never rfl (pi_list (pe_lstK (pa_cons (pv 3) (pa_cons (pe_op op_catTK (pe_tupK (pa_cons (pe_op op_catTK (pe_slice sl_tupK (pe_ix (ix_seqK (K := K) rfl) (pv 3) pe_int (fun _ _ => rfl)) po_none (po_some pe_int)) (pe_tupK (pa_cons (pv 5) pa_nil))) pa_nil)) (pe_slice sl_tupK (pv 3) (po_some pe_int) po_none)) pa_nil)))) (pg_name (i := 8) sc_law.nd rfl (by first | exact Or.inl rfl | exact Or.inr rfl)) (pss_cons (ps_set (i := 9) sc_law.nd rfl (by first | exact Or.inl rfl | exact Or.inr rfl) (pe_cal C_kinds hr (pa_cons (pv 8) pa_nil))) (pss_one (ps_if (pt_cmpR (op_eqXK (K := K) hr rfl) (pe_ix (ix_seqK (K := K) rfl) (pv 9) pe_int (fun _ _ => rfl)) pe_str (nomark _)) (pss_cons (ps_asg (pe_cal C__law_demands hr (pa_cons (pv 8) pa_nil)) (pg_tup rfl (pgs_cons (pg_name (i := 10) sc_law.nd rfl (by first | exact Or.inl rfl | exact Or.inr rfl)) (pgs_cons (pg_name (i := 11) sc_law.nd rfl (by first | exact Or.inl rfl | exact Or.inr rfl)) pgs_nil)))) (pss_cons (ps_set (i := 12) sc_law.nd rfl (by first | exact Or.inl rfl | exact Or.inr rfl) (pe_ix (ix_seqK (K := K) rfl) (pv 9) pe_int (fun _ _ => rfl))) (pss_cons (ps_if (PW.pt (pw_or (pt_not (pt_val (pe_callB (call_isiKK (K := K) rfl) (by rfl) T.b_isinstance (by decide +kernel) (pa_cons (pv 12) (pa_cons (pe_bltn (v := .ty "tuple") rfl T.b_tuple (by decide +kernel) rfl) pa_nil))))) (pw_or1 (pt_cmpR (op_neXK (K := K) hr rfl) (pe_callTy (call_listKK (K := K) rfl) (by rfl) T.b_list (by decide +kernel) (pa_cons (pv 12) pa_nil)) (pe_callB (cr_sortedP rfl) (by rfl) T.b_sorted (by decide +kernel) (pa_cons (pe_callTy (cr_setPl rfl hr.units) (by rfl) T.b_set (by decide +kernel) (pa_cons (pv 12) pa_nil)) pa_nil)) (nomark _))))) (pss_one (ps_ret pe_bl)) pss_nil) (pss_cons (ps_if (pt_cmpR op_notN1 (pe_cal C__law_solved hr (pa_cons (pe_lc (own := [("row", 13)]) (g := (gName 13)) rfl sc_law.nd (pi_list (pv 10)) (blkOk_by (own := [("row", 13)]) (N := ["script", "k", "draws", "program", "heads", "body", "count", "other", "one", "found", "rows", "others", "places", "row", "place"]) (sc := defScope s_law) (by decide +kernel)) (fun _ _ _ _ _ => (pg_name (i := 13) sc_law.nd rfl (by first | exact Or.inl rfl | exact Or.inr rfl))) (fun _ _ _ _ _ => (pts_one (pt_cmpR (op_inT hr rfl) (pe_ix (ix_seqK (K := K) rfl) (pv 13) pe_int (fun _ _ => rfl)) (pv 12) rfl))) (fun _ _ _ _ _ => (pe_slice sl_tupK (pv 13) (po_some pe_int) po_none))) pa_nil)) pe_non (nomark _)) (pss_one (ps_ret pe_bl)) pss_nil) (pss_one (ps_for PassesOwn.never rfl (pi_tup (pv 12)) (pg_name (i := 14) sc_law.nd rfl (by first | exact Or.inl rfl | exact Or.inr rfl)) (pss_one (ps_if (pt_cmpR op_isN1 (pe_cal C__law_solved hr (pa_cons (pe_lc (own := [("row", 13)]) (g := (gName 13)) rfl sc_law.nd (pi_list (pv 10)) (blkOk_by (own := [("row", 13)]) (N := ["script", "k", "draws", "program", "heads", "body", "count", "other", "one", "found", "rows", "others", "places", "row", "place"]) (sc := defScope s_law) (by decide +kernel)) (fun _ _ _ _ _ => (pg_name (i := 13) sc_law.nd rfl (by first | exact Or.inl rfl | exact Or.inr rfl))) (fun _ _ _ _ _ => (pts_one (PW.pt (pw_and (pt_cmpR (op_inT hr rfl) (pe_ix (ix_seqK (K := K) rfl) (pv 13) pe_int (fun _ _ => rfl)) (pv 12) rfl) (pw_and1 (pt_cmpR (op_neXK (K := K) hr rfl) (pe_ix (ix_seqK (K := K) rfl) (pv 13) pe_int (fun _ _ => rfl)) (pv 14) (nomark _))))))) (fun _ _ _ _ _ => (pe_slice sl_tupK (pv 13) (po_some pe_int) po_none))) pa_nil)) pe_non (nomark _)) (pss_one (ps_ret pe_bl)) pss_nil)))))))) pss_nil)))))))))))) (pss_one (ps_ret pe_bl))), ?_⟩
  have hr0 : ∃ n : Nat, n ≤ 63 ∧ (if (if ((ns.length : Nat) : Int) < 6 then ((ns.length : Nat) : Int) else 6) > 1 then (if ((ns.length : Nat) : Int) < 6 then ((ns.length : Nat) : Int) else 6) else 1) = (n : Int) := by
    have e : (if ((ns.length : Nat) : Int) < 6 then ((ns.length : Nat) : Int) else 6) = ((min ns.length 6 : Nat) : Int) := by
      by_cases h1 : ns.length < 6
      · rw [if_pos (by omega)]
        omega
      · rw [if_neg (by omega)]
        omega
    rw [e]
    by_cases h2 : 1 < min ns.length 6
    · exact ⟨min ns.length 6, by omega, if_pos (by omega)⟩
    · exact ⟨1, by omega, if_neg (by omega)⟩
  obtain ⟨n0, hn0, en0⟩ := hr0
  walk_at "rr"
  refine ⟨_, _, rfl, .inl ⟨_, hsq, rfl⟩, ?_⟩
  rw [List.length_map]
  refine ⟨_, _, rfl, ?_⟩
  refine ⟨_, _, rfl, ?_⟩
  rw [en0]
  refine ⟨_, rfl, by omega, by omega, ?_⟩
  rw [Int.toNat_natCast]
  refine forW (walk_rng (n := n0)) (fun i σ H' => ∃ o1 o2 o3 o4 o5 o6 o7 o8 o9 o10 o11 o12 o14, σ = [some (.ref a), o1, o2, o3, o4, o5, o6, o7, o8, o9, o10, o11, o12, none, o14] ∧ SqL K H' a (ns.map V.int) ∧ LamX.Tabs [(PT, lamQ)] H')
    ⟨none, none, none, none, none, none, none, none, none, none, none, none, none, rfl, hsq, hT⟩ (fun _ _ _ _ _ => trivial) ?_ ?_
  · rintro i z σ H0 H1 hi ⟨o1, o2, o3, o4, o5, o6, o7, o8, o9, o10, o11, o12, o14, rfl, sq1, T1⟩ ⟨rfl, rfl⟩
    walk_at "rr"
    refine ⟨a, ns, i, rfl, sq1, fun dl H2 k2 n2 dr2 => ?_⟩
    walk_at "rr"
    refine ⟨dl, rfl, dr2, fun pa v v' H3 p k3 dr3 e3 tp g => ?_⟩
    have k13 : Kp [] H1 H3 := k2.fresh n2 k3
    refine r_gTup rfl e3 rfl ?_
    walk_at "rr"
    obtain ⟨d0, prest, rfl⟩ : ∃ d0 prest, p = d0 :: prest := by
      cases p with
      | nil => exact absurd g.pos (by simp)
      | cons d0 prest => exact ⟨_, _, rfl⟩
    refine r_ix tp 0 rfl fun vd td => ?_
    refine r_ix td 4 rfl fun vb tb => ?_
    walk_at "rr"
    have ok0 := g.sound.ok d0 (by simp)
    refine ⟨vb, d0.body, rfl, tb, ok0.dep, ok0.body, fun H4 k4 => ?_⟩
    walk_at "rr"
    refine ⟨by simp, fun p5 H5 k5 n5 e5 => ?_⟩
    refine ⟨by simp, fun p6 H6 k6 n6 e6 => ?_⟩
    refine ⟨by simp, fun p7 H7 k7 n7 e7 => ?_⟩
    refine ⟨by simp, fun p8 H8 k8 n8 e8 => ?_⟩
    refine ⟨by simp, fun p9 H9 k9 n9 e9 => ?_⟩
    have k49 := k5.trans (k6.trans (k7.trans (k8.trans k9)))
    have dr9 := (dr3.mono k4 ni0).mono k49 ni0
    have dp9 : dl ≠ p9 := by
      obtain ⟨_, _, gg, _⟩ := ((dr3.mono k4 ni0).mono (k5.trans (k6.trans (k7.trans k8))) ni0)
      exact ne_of_none gg n9
    walk_at "rr"
    refine ⟨dl, 2, rfl, dr9, by decide, by decide, fun n10 H10 hn10 k10 dr10 => ?_⟩
    have e910 := k10.at e9 (ni1 (Ne.symm dp9))
    have k910 := k9.trans (M := []) (Kp.refl _ _)
    obtain ⟨o, ov, hov, lo, to⟩ : ∃ (o : Tree) (ov : V), ([.ref p6, .ref p8] : List V)[n10]? = some ov ∧ LeafO o ∧ TD H10 ov (tr o) := by
      match n10, hn10 with
      | 0, _ =>
        refine ⟨.nil (70, 1), .ref p6, rfl, leaf_nil, ?_⟩
        rw [tr_nil]
        exact TD.mono k10 (TD.mk ((k7.trans (k8.trans k9)).atT e6) (.cons (.str _) (.cons (TD.mk ((k6.trans (k7.trans (k8.trans k9))).atT e5) (.cons (.int _) (.cons (.int _) .nil))) .nil)))
      | 1, _ =>
        refine ⟨.num (70, 1) 3, .ref p8, rfl, leaf_num, ?_⟩
        rw [tr_num]
        exact TD.mono k10 (TD.mk (k9.atT e8) (.cons (.str _) (.cons (TD.mk ((k8.trans k9).atT e7) (.cons (.int _) (.cons (.int _) .nil))) (.cons (.int _) .nil))))
    refine r_ixL e910 n10 hov ?_
    have k310 : Kp [dl] H3 H10 := (k4.mono (by simp)).trans ((k49.mono (by simp)).trans k10)
    clear hov e910 k910 e9 e8 e7 e6 e5 n9 n8 n7 n6 n5 k9 k8 k7 k6 k5 k49 k10 k4 dr9 dp9 hn10
    walk_at "rr"
    refine r_lam3 ?_
    walk_at "rr"
    have szb : sz d0.body ≤ 1000 := by
      have := g.size
      simp only [szP, List.map_cons, List.sum_cons] at this
      omega
    refine ⟨dl, sz d0.body, rfl, dr10, sz_pos _, szb, fun m11 H11 hm11 k11 dr11 => ?_⟩
    have k111 : Kp [] H1 H11 := k13.fresh n2 (k310.trans k11)
    have T11 : LamX.Tabs [(PT, lamQ)] H11 := T1.ext fun b u e => k111.keep b u e (by simp)
    have sq11 : SqL K H11 a (ns.map V.int) := SqL.on sq1 fun u e _ => k111.keep a u e (by simp)
    refine ⟨ov, rfl, T11, fun f c' H12 eN T12 hco => ?_⟩
    have tt : ∀ b xs, H11 b = some (.tup xs) → H12 b = some (.tup xs) := fun b xs e => eN b _ e (by simp)
    have sq12 : SqL K H12 a (ns.map V.int) := SqL.on sq11 fun u e n => eN a u e n
    have k311 := k310.trans k11
    have tp12 : TD H12 v (.tuple ((d0 :: prest).map df)) := (tp.mono k311).monoT tt
    have tb12 : TD H12 vb (tr d0.body) := (tb.mono k311).monoT tt
    have to12 : TD H12 ov (tr o) := (to.mono k11).monoT tt
    clear k311 sq11 T11 k111 tt eN k11 k310 k13 dr10 dr11 dr3 to tb tp e3 k2 k3 dr2 td T1 sq1
    refine ⟨vb, d0.body, o, m11, rfl, tb12, ok0.dep, ok0.body, hco, to12, lo, by decide, fun vc H13 t13 k13 tc ch => ?_⟩
    have tp13 := tp12.mono k13
    have T13 : LamX.Tabs [(PT, lamQ)] H13 := T12.ext fun b u e => k13.keep b u e (by simp)
    have sq13 : SqL K H13 a (ns.map V.int) := SqL.on sq12 fun u e _ => k13.keep a u e (by simp)
    clear k13 tp12 tb12 to12 T12 sq12 hco
    walk_at "rr"
    refine r_ix tp13 0 rfl fun vd2 td2 => ?_
    walk_at "rr"
    refine ⟨_, td2, fun y14 H14 k14 t14 => ?_⟩
    rw [show cutD [PyData.str "def", pl d0.p, .str d0.name, .tuple (d0.params.map PyData.str), tr d0.body] none (some 4) = [PyData.str "def", pl d0.p, .str d0.name, .tuple (d0.params.map PyData.str)] from cutD_take _ 4 (by simp)] at t14
    walk_at "rr"
    refine ⟨by simp, fun p15 H15 k15 n15 e15 => ?_⟩
    refine ⟨_, [tr t13], t14.mono k15, TD.mk e15 (.one ((tc.mono k14).mono k15)), by simp, fun u16 H16 k16 t16 => ?_⟩
    refine ⟨by simp, fun p17 H17 k17 n17 e17 => ?_⟩
    walk_at "rr"
    have k1317 := k14.trans (k15.trans (k16.trans k17))
    refine ⟨_, tp13.mono k1317, fun y18 H18 k18 t18 => ?_⟩
    rw [show cutD ((d0 :: prest).map df) (some 1) none = prest.map df from cutD_drop _ 1 (by simp)] at t18
    refine ⟨[_], _, (TD.mk e17 (.one (t16.mono k17))).mono k18, t18, by have := g.few; simp at this ⊢; omega, fun z19 H19 k19 t19 => ?_⟩
    refine ⟨by simp, fun l20 H20 k20 n20 e20 => ?_⟩
    have k1320 := k1317.trans (k18.trans (k19.trans k20))
    have tpa := tp13.mono k1320
    have tpb : TD H20 z19 (.tuple (({ d0 with body := t13 } :: prest).map df)) := t19.mono k20
    have T20 : LamX.Tabs [(PT, lamQ)] H20 := T13.ext fun b u e => k1320.keep b u e (by simp)
    have sq20 : SqL K H20 a (ns.map V.int) := SqL.on sq13 fun u e _ => k1320.keep a u e (by simp)
    have gb : PG ({ d0 with body := t13 } :: prest) := ch.pg g
    have both : ∀ (j : Nat) x, ([v, z19] : List V)[j]? = some x → ∃ p', PG p' ∧ TD H20 x (.tuple (p'.map df)) := fun j x hx => by
      match j, hx with
      | 0, hx => cases hx; exact ⟨_, g, tpa⟩
      | 1, hx => cases hx; exact ⟨_, gb, tpb⟩
    clear tpa tpb k1320 t19 t18 k18 k19 k20 k1317 e17 e15 t16 t14 k14 k15 k16 k17 td2 T13 sq13 tc gb tp13
    walk_at "rr"
    refine ⟨⟨_, SqL.of e20⟩, ?_⟩
    refine forW (walk_list (xs := [v, z19])) (fun j σ H' => ∃ o8 o9 o10 o11 o12 o14, σ = [some (.ref a), some (.int (i : Int)), some (.ref dl), some v, some v', some vc, some (.int ((sz d0.body : Nat) : Int)), some ov, o8, o9, o10, o11, o12, none, o14] ∧ Kp [] H20 H')
      ⟨_, _, _, _, _, _, rfl, Kp.refl _ _⟩ ?_ ?_ ?_
    · rintro j σ H' _ ⟨_, _, _, _, _, _, _, k⟩
      exact SqL.of (k.at e20 ni0)
    · rintro j x σ H0' H21 hj ⟨o8, o9, o10, o11, o12, o14, rfl, k21⟩ ⟨rfl, hx⟩
      obtain ⟨p', g', tx⟩ := both j x hx
      have tx21 := tx.mono k21
      walk_at "rr"
      refine ⟨x, p', rfl, tx21, g'.sound, g'.size, fun vk H22 ps k22 t22 cl => ?_, fun ak xk H22 k22 e22 => ?_⟩
      · have k222 := k21.trans k22
        obtain ⟨few, okps⟩ := clash_few g' cl
        walk_at "rr"
        refine r_ix_str t22 0 rfl ?_
        walk_at "rr"
        refine r_yes rfl ?_
        walk_at "rr"
        refine ⟨x, p', rfl, tx.mono k222, g'.sound, g'.size, fun ad l xo H23 rs' k23 e23 R23 S23 => ?_⟩
        obtain ⟨hct, hrl, hfit⟩ := rows_fit g' S23
        have fit : ∀ (keep : Pl → Bool), ∀ q ∈ (rs'.filter fun r => keep r.1).map (·.2), (q.1.dp ≤ 1 ∧ inN (ctP p') q.1) ∧ q.2.dp ≤ 1 ∧ inN (ctP p') q.2 := fun keep q hq => by
          obtain ⟨r, hr, rfl⟩ := List.mem_map.mp hq
          exact hfit r (List.mem_filter.mp hr).1
        have len : ∀ (keep : Pl → Bool), ((rs'.filter fun r => keep r.1).map (·.2)).length ≤ 800 := fun keep => by
          rw [List.length_map]
          exact Nat.le_trans (List.length_filter_le _ _) hrl
        refine r_gTup rfl e23 rfl ?_
        walk_at "rr"
        refine r_ix (t22.mono k23) 1 rfl fun pv tpv => ?_
        walk_at "rr"
        refine r_isi_tup tpv ?_
        walk_at "rr"
        refine r_no rfl ?_
        walk_at "rr"
        refine r_list_td tpv fun l24 ys24 H24 k24 n24 e24 t24 => ?_
        walk_at "rr"
        refine ⟨pv, ps, rfl, tpv.mono k24, few, fun D S H25 k25 n25 sp25 hS => ?_⟩
        walk_at "rr"
        refine ⟨D, S, rfl, sp25, fun z hz => okps z ((hS z).mp hz), fun l26 ys26 qs H26 k26 n26 e26 t26 hqs pw26 => ?_⟩
        have eqq : ps = qs := rise_uniq cl.sorted pw26 fun z => (hS z).symm.trans (hqs z).symm
        rw [← eqq] at t26
        have k2426 := k25.trans k26
        refine r_ne_lpls (k2426.at e24 ni0) (t24.mono k2426) e26 t26 ?_
        walk_at "rr"
        refine r_no rfl ?_
        walk_at "rr"
        have k2326 := k24.trans k2426
        have R26 := R23.mono k2326 ni0
        have tp26 := tpv.mono k2326
        have k2026 := k222.trans (k23.trans k2326)
        clear t26 e26 n26 pw26 hqs sp25 hS n25 t24 e24 n24 k24 k25 k26 k2426 k2326 t22 e23 R23 k23 k222 tpv
        obtain ⟨vs26, hl26, _⟩ := id R26
        refine ⟨⟨_, SqL.of hl26⟩, ?_⟩
        refine rows_lc (keep := fun q => decide (q ∈ ps)) R26 hrl (fun _ => rfl) (fun y r H' Q' k ty hq => ?_) (fun y r H' Q' k ty hq => ?_) fun D0 H27 k27 n27 P27 => ?_
        · obtain ⟨ay, v1, v2, v3, rfl, hay, t1, t2, t3⟩ := ty.row_inv
          walk_at "rr"
          refine .inr (.inl ⟨ay, _, 0, v1, rfl, rfl, SqT.of hay, rfl, ?_⟩)
          walk_at "rr"
          refine r_in_pls t1 (tp26.mono k) ?_
          walk_at "rr"
          exact hq
        · walk_at "rr"
          refine ⟨_, ty, fun z H2 k2 t2 => ?_⟩
          exact hq z H2 k2 t2
        walk_at "rr"
        refine ⟨D0, _, ctP p', rfl, P27, len (fun q => decide (q ∈ ps)), hct, fit (fun q => decide (q ∈ ps)), fun H28 k28 nu => ?_, fun a28 H28 k28 u => ?_⟩
        · walk_at "rr"
          refine r_notN_non ?_
          walk_at "rr"
          refine r_no rfl ?_
          walk_at "rr"
          have k2628 := k27.trans k28
          have tp28 := tp26.mono k2628
          have R28 := R26.mono k2628 ni0
          have k2028 := k2026.trans k2628
          clear P27 n27 k27 k28 k2628 nu hl26 R26 tp26 k2026
          obtain ⟨apl, xsp, rfl, hap, tsp⟩ := tp28.inv
          refine ⟨apl, rfl, ⟨_, SqT.of hap⟩, ?_⟩
          refine forW (walk_tup (xs := xsp)) (fun m σ H' => ∃ o14, σ = [some (.ref a), some (.int (i : Int)), some (.ref dl), some v, some v', some vc, some (.int ((sz d0.body : Nat) : Int)), some ov, some x, some vk, some (.ref l), some xo, some (.ref apl), none, o14] ∧ Kp [] H28 H')
            ⟨_, rfl, Kp.refl _ _⟩ ?_ ?_ ?_
          · rintro m σ H' _ ⟨_, _, k⟩
            exact SqT.of (k.atT hap)
          · rintro m z σ H0'' H29 hm ⟨o14, rfl, k29⟩ ⟨rfl, hz⟩
            obtain ⟨q0, hq0, hmq, htq⟩ := tsp.map_get hz
            have tq29 := htq.mono k29
            have tp29 := tp28.mono k29
            have R29 := R28.mono k29 ni0
            walk_at "rr"
            obtain ⟨vs29, hl29, _⟩ := id R29
            refine ⟨⟨_, SqL.of hl29⟩, ?_⟩
            refine rows_lc (keep := fun q => decide (q ∈ ps) && decide (q ≠ q0)) R29 hrl (fun _ => rfl) (fun y r H' Q' k ty hq => ?_) (fun y r H' Q' k ty hq => ?_) fun D1 H30 k30 n30 P30 => ?_
            · obtain ⟨ay, v1, v2, v3, rfl, hay, t1, t2, t3⟩ := ty.row_inv
              walk_at "rr"
              refine .inr (.inl ⟨ay, _, 0, v1, rfl, rfl, SqT.of hay, rfl, ?_⟩)
              walk_at "rr"
              refine r_in_pls t1 (tp29.mono k) ?_
              walk_at "rr"
              by_cases hin : r.1 ∈ ps
              · refine r_yes (decide_eq_true hin) ?_
                walk_at "rr"
                refine .inr (.inl ⟨ay, _, 0, v1, rfl, rfl, SqT.of hay, rfl, ?_⟩)
                walk_at "rr"
                refine r_ne_pl t1 (tq29.mono k) ?_
                walk_at "rr"
                have e : (decide (r.1 ∈ ps) && decide (r.1 ≠ q0)) = !decide (r.1 = q0) := by simp [hin]
                rw [e] at hq
                exact hq
              · refine r_no (decide_eq_false hin) ?_
                have e : (decide (r.1 ∈ ps) && decide (r.1 ≠ q0)) = false := by simp [hin]
                rw [e] at hq
                exact hq
            · walk_at "rr"
              refine ⟨_, ty, fun z2 H2 k2 t2 => ?_⟩
              exact hq z2 H2 k2 t2
            walk_at "rr"
            refine ⟨D1, _, ctP p', rfl, P30, len (fun q => decide (q ∈ ps) && decide (q ≠ q0)), hct, fit (fun q => decide (q ∈ ps) && decide (q ≠ q0)), fun H31 k31 nu => ?_, fun a31 H31 k31 u => ?_⟩
            · exact absurd ((uni_sat S23 (fun q => decide (q ∈ ps) && decide (q ≠ q0))).mpr (cl.least q0 hq0)) nu
            · walk_at "rr"
              refine r_isN_ref ?_
              walk_at "rr"
              refine r_no rfl ?_
              walk_at "rr"
              exact ⟨_, rfl, k29.trans (k30.trans k31)⟩
          · rintro σ H29 ⟨o14, rfl, k29⟩
            exact ⟨_, _, _, _, _, _, rfl, k2028.trans k29⟩
        · exact absurd ((uni_sat S23 (fun q => decide (q ∈ ps))).mp u) cl.bad
      · walk_at "rr"
        refine .inr (.inl ⟨ak, _, 0, _, rfl, rfl, SqT.of e22, rfl, ?_⟩)
        walk_at "rr"
        refine r_no (by decide +kernel) ?_
        walk_at "rr"
        exact ⟨_, _, _, _, _, _, rfl, k21.trans k22⟩
    · rintro σ H21 ⟨o8, o9, o10, o11, o12, o14, rfl, k21⟩
      exact ⟨_, _, _, _, _, _, _, _, _, _, _, _, _, rfl, SqL.on sq20 fun u e _ => k21.keep a u e (by simp), T20.ext fun b u e => k21.keep b u e (by simp)⟩
  · rintro σ H2 ⟨o1, o2, o3, o4, o5, o6, o7, o8, o9, o10, o11, o12, o14, rfl, _, _⟩
    walk_at "rr"
    exact q H2
end
section
variable {P : Program} {w : World} {K : PySem.W.Frag} {mg : Str → Option Value} {base : Heap}
/-- all defs, one resting on the other -/
theorem whole (T : Txt K mg) {PT cc : Addr} (hcc : He.codeOf K ("law", none) = cc) (TB : LamX.TabB base mg cc PT) {fd : FuncData} (F : FunD K "law" "law" (defArgs s_law) (defBody s_law) (defScope s_law) [] [] (He.ga K "law") fd) : FnOk P w K mg base CX0 204 (He.ga K "law") fd ["script"] (sp_law (K := K) PT) := by
  have within : Cal P w K mg base 1 "is_within" ["thing", "low", "high"] sp_is_within := c_is_within T
  have name : Cal P w K mg base 1 "is_name" ["thing"] sp_is_name := c_is_name T
  have place := c_is_place T within
  have subs : Cal P w K mg base 1 "subtrees" ["tree"] sp_subtrees := c_subtrees T
  have node := c_is_node T within name place
  have tree := c_is_tree T node subs 10
  have prog := c_need_program T (c_is_program T (c_is_def T place name tree))
  have tf := c_tree_faults T (c_use_faults T) (c_scoped T subs) 10
  have sound := c_need_sound T (c_faults T prog tf)
  have seen : Cal P w K mg base 1 "seen" ["table", "kind"] sp_seen := c_seen T
  have solved := c_solved T (c_joined T seen (c_is_within_it T seen))
  have init := c_init T (c_new T) (c_demand T) (c_kind T subs 10)
  have kinds := c_kinds T sound init solved (c_fewest T solved) (c_told T seen 200)
  have draw : Cal P w K mg base 1 "_law_draw" ["draws", "many"] sp_law_draw := c_law_draw T
  have lplace : Cal P w K mg base 1 "_law_place" ["way"] sp_law_place := c_law_place T
  have leaf := c_law_leaf T draw lplace
  have lsubs : Cal P w K mg base 1 "_law_subs" ["tree"] sp_subtrees := c_law_subs T
  have new : Cal P w K mg base 1 "_law_new" ["count"] sp_law_new := c_law_new T
  have count := c_law_count T lsubs 10
  have program := c_law_program T draw lplace (c_law_names T draw (c_law_keys T)) (c_law_loop T draw lplace leaf) (c_law_tree T draw lplace leaf 4)
  have demands := c_law_demands T new (c_law_demand T new lsubs (c_law_pairs T new) 10)
  exact c_law T (c_law_draws T) draw program count (c_law_changed T lsubs count (c_law_with T) 10) kinds demands (c_law_solved T (c_law_put T 200)) hcc TB F
end
end Tp
set_option Elab.async false
set_option linter.all false
set_option maxRecDepth 100000
set_option maxHeartbeats 0
namespace Tp
open PySem PySem.Spec PyProof.Rows L2
theorem law_at {w : World} {mg : Str → Option Value} {fa : Addr} {h : Heap} (Y : hk.says w h) (G : h.Ns mainGlobals mg) (hmg : mg ("law" : Str) = some (.ref fa)) (P : Program) (l : PySem.W.OpenLaw) (hP : l.prog = P) :
    ∃ K : PySem.W.Frag, K.In h ∧ LamX.LawAtS l w K L2.CX0 204 63 "script" mg fa h := by
  obtain ⟨K, KX, c⟩ := Y
  have T : Txt K mg := ⟨c.t.d, c.more, fun x hx => He.glo_ok KX G hx, fun x hx => He.free_ok KX G hx, fun x i hx => He.int_ok KX G hx, fun x z hx => He.str_ok KX G hx⟩
  obtain ⟨fd, F⟩ := T.F_law
  have e := hmg.symm.trans T.g_law
  cases e
  have mem : (("law", none) : He.Defn) ∈ tfD := List.mem_singleton.mpr rfl
  refine ⟨K, KX, fd, [He.cT K ("law", none)], sp_law (K := K) (He.cT K ("law", none)).2, fun p hp => ?_, fun p hp => ?_, fun p hp => ?_, fun s u => FunD.bindsA (ps := ["script"]) F (fun _ _ _ _ _ _ us hl => match us, hl with | [_], _ => rfl) s [u] rfl, fun H a ns hl _ hH hS => ?_, fun base hK hG hTB => ?_⟩
  · rw [List.mem_singleton.mp hp]
    exact c.empty _ mem
  · rw [List.mem_singleton.mp hp]
    exact c.out _ mem
  · rw [List.mem_singleton.mp hp]
    exact PySem.W.codeHd_of_K KX (c.hd _ mem)
  · refine ⟨a, ns, rfl, hS, hl, fun p hp => ?_, fun _ => rfl⟩
    rw [List.mem_singleton.mp hp]
    exact LamX.TabS.nil (hH _ (List.mem_singleton.mpr rfl))
  · exact whole T rfl (hTB _ (List.mem_singleton.mpr rfl)) F
end Tp
open PySem PySem.W PySem.Calls PyProof.Rows
theorem PySem.Challenge.cw_tierpile_k44_whole_places_of_a_clash_holds : PySem.Challenge.rw_tierpile_k44_whole_places_of_a_clash.Holds := by
  refine Tp.from_walk (LamX.walk_ofTsE (l := PySem.Challenge.rw_tierpile_k44_whole_places_of_a_clash) (n := 63) (k := 204) (x := "script") (CX := fun _ => L2.CX0) rfl (by decide) Tp.theD_dflt ⟨rfl, by decide, by decide⟩ ?_ (fun _ _ _ _ _ z => z))
  intro w mg fa h Y G hmg0
  rw [Tp.theD_name] at hmg0
  exact Tp.law_at Y G hmg0 _ _ rfl
