import PyProof.Rows.All
import Wide.All
import OpenK.AllK
import Wide.FinOn
import HandS.ForMost
import HandS.Star
import HandS.TupMul
import HandS.TupAny
import HandS.IsInst
import HandS.Wide
import HandS.WordsExc
import HandS.More
import KE.GoesEnum
import HandS.Property
import HandS.OwnEq
import HandS.Style
import KE.KExcSuper
import HandS.ExcInit
import HandS.ExcSuper
import HandS.ExcOwn
import HandS.TryOnly
import HandS.TryMany
import HandS.ExcIs
import HandS.ExcField
import KE.KOpsOwn
import PySem.Challenge.RW_wheelsizes_k14_walks_refused
set_option Elab.async false
set_option linter.all false
set_option maxRecDepth 100000
section
open PySem PySem.W PyProof.Rows
set_option maxHeartbeats 0
open_top topK for PySem.Challenge.rw_wheelsizes_k14_walks_refused
end
/-! my own frame: how heaps grow, tuple data, one lemma a piece of a reading -/
namespace WZ
open PySem PySem.Spec PyProof.Rows L2 StX

/-! ### how a heap goes on: all but M stands, tuples and frozen things stand always -/
structure Kp (M : List Addr) (H H' : Hp) : Prop where
  keep : ∀ b o, H b = some o → b ∉ M → H' b = some o
  tups : ∀ b xs, H b = some (.tup xs) → H' b = some (.tup xs)
  frzs : ∀ b o u, H b = some (.frz o u) → H' b = some (.frz o u)
  ther : ∀ b o, H b = some o → ∃ o', H' b = some o'
theorem Kp.refl {M : List Addr} (H : Hp) : Kp M H H := ⟨fun _ _ h _ => h, fun _ _ h => h, fun _ _ _ h => h, fun _ o h => ⟨o, h⟩⟩
theorem Kp.none {M : List Addr} {H H' : Hp} (k : Kp M H H') {l : Addr} (h : H' l = Option.none) : H l = Option.none := by
  cases q : H l with
  | none => rfl
  | some o =>
    obtain ⟨o', e⟩ := k.ther l o q
    rw [e] at h
    cases h
theorem Kp.trans {M : List Addr} {H H1 H2 : Hp} (a : Kp M H H1) (b : Kp M H1 H2) : Kp M H H2 :=
  ⟨fun c o h n => b.keep c o (a.keep c o h n) n, fun c xs h => b.tups c xs (a.tups c xs h), fun c o u h => b.frzs c o u (a.frzs c o u h), fun c o h => let ⟨o1, h1⟩ := a.ther c o h; b.ther c o1 h1⟩
theorem Kp.up {M M' : List Addr} {H H' : Hp} (s : ∀ x, x ∈ M → x ∈ M') (a : Kp M H H') : Kp M' H H' := ⟨fun b o h n => a.keep b o h fun z => n (s b z), a.tups, a.frzs, a.ther⟩
/-- one step more: what it touches is allowed, or was not there -/
theorem Kp.step {M M' : List Addr} {H H1 H2 : Hp} (a : Kp M H H1) (b : Kp M' H1 H2) (s : ∀ x, x ∈ M' → x ∈ M ∨ H x = Option.none) : Kp M H H2 := by
  refine ⟨fun c o h n => ?_, fun c xs h => b.tups c xs (a.tups c xs h), fun c o u h => b.frzs c o u (a.frzs c o u h), fun c o h => let ⟨o1, h1⟩ := a.ther c o h; b.ther c o1 h1⟩
  refine b.keep c o (a.keep c o h n) fun z => ?_
  rcases s c z with q | q
  · exact n q
  · rw [h] at q
    cases q
theorem Kp.step0 {M : List Addr} {H H1 H2 : Hp} (a : Kp M H H1) (b : Kp [] H1 H2) : Kp M H H2 := a.step b fun _ z => nomatch z
theorem Kp.step1 {M : List Addr} {H H1 H2 : Hp} {l : Addr} (a : Kp M H H1) (b : Kp [l] H1 H2) (s : l ∈ M ∨ H l = Option.none) : Kp M H H2 := a.step b fun x z => by
  rw [List.mem_singleton] at z
  rw [z]
  exact s
/-- what was there is there -/
def Th (H H' : Hp) : Prop := ∀ b o, H b = some o → ∃ o', H' b = some o'
theorem Th.refl (H : Hp) : Th H H := fun _ o h => ⟨o, h⟩
theorem Th.trans {H H1 H2 : Hp} (a : Th H H1) (b : Th H1 H2) : Th H H2 := fun c o h => let ⟨o1, h1⟩ := a c o h; b c o1 h1
theorem Kp.th {M : List Addr} {H H' : Hp} (k : Kp M H H') : Th H H' := k.ther
theorem Th.none {H H' : Hp} (k : Th H H') {l : Addr} (h : H' l = Option.none) : H l = Option.none := by
  cases q : H l with
  | none => rfl
  | some o =>
    obtain ⟨o', e⟩ := k l o q
    rw [e] at h
    cases h
theorem Kp.step2 {M : List Addr} {H H1 H2 : Hp} {l m : Addr} (a : Kp M H H1) (b : Kp [l, m] H1 H2) (s : l ∈ M ∨ H l = Option.none) (s' : m ∈ M ∨ H m = Option.none) : Kp M H H2 := a.step b fun x z => by
  rcases List.mem_cons.mp z with z | z
  · rw [z]
    exact s
  · rw [List.mem_singleton] at z
    rw [z]
    exact s'
theorem Kp.new {M : List Addr} {H : Hp} {p : Addr} {o : HO} (h : H p = Option.none) : Kp M H (upd H p o) := by
  have f : ∀ b u, H b = some u → upd H p o b = some u := fun b u q => by
    rw [upd_ne (ne_of_none q h)]
    exact q
  exact ⟨fun b u q _ => f b u q, fun b xs q => f b _ q, fun b o u q => f b _ q, fun b u q => ⟨u, f b u q⟩⟩
theorem Kp.write {H : Hp} {l : Addr} {xs ys : List V} (h : H l = some (.lst xs)) : Kp [l] H (upd H l (.lst ys)) := by
  have f : ∀ b u, H b = some u → b ≠ l → upd H l (.lst ys) b = some u := fun b u q n => by
    rw [upd_ne n]
    exact q
  refine ⟨fun b u q n => f b u q (by simpa using n), fun b xs q => f b _ q (ne_of q h (by intro z; cases z)), fun b o u q => f b _ q (ne_of q h (by intro z; cases z)), fun b u q => ?_⟩
  by_cases e : b = l
  · subst e
    exact ⟨_, upd_same⟩
  · exact ⟨u, f b u q e⟩
theorem Kp.writeI {H : Hp} {l C dx : Addr} {fs gs : List (Str × V)} (h : H l = some (.ins C dx fs)) : Kp [l] H (upd H l (.ins C dx gs)) := by
  have f : ∀ b u, H b = some u → b ≠ l → upd H l (.ins C dx gs) b = some u := fun b u q n => by
    rw [upd_ne n]
    exact q
  refine ⟨fun b u q n => f b u q (by simpa using n), fun b xs q => f b _ q (ne_of q h (by intro z; cases z)), fun b o u q => f b _ q (ne_of q h (by intro z; cases z)), fun b u q => ?_⟩
  by_cases e : b = l
  · subst e
    exact ⟨_, upd_same⟩
  · exact ⟨u, f b u q e⟩
theorem Kp.sqT {K : PySem.W.Frag} {M : List Addr} {H H' : Hp} {a : Addr} {xs : List V} (k : Kp M H H') (h : SqT K H a xs) : SqT K H' a xs := by
  rcases h with (h | ⟨o, h⟩) | h
  · exact .inl (.inl (k.tups _ _ h))
  · exact .inl (.inr ⟨o, k.frzs _ _ _ h⟩)
  · exact .inr h
/-- a list that is read: frozen (the script), or written in the text -/
theorem Kp.at_ {M : List Addr} {H H' : Hp} {a : Addr} {o : HO} (k : Kp M H H') (h : H a = some o) (n : a ∉ M) : H' a = some o := k.keep _ _ h n
theorem Kp.tp {M : List Addr} {H H' : Hp} {a : Addr} {xs : List V} (k : Kp M H H') (h : H a = some (.tup xs)) : H' a = some (.tup xs) := k.tups _ _ h
theorem Kp.sqL {K : PySem.W.Frag} {M : List Addr} {H H' : Hp} {a : Addr} {xs : List V} (k : Kp M H H') (h : SqL K H a xs) (n : a ∉ M) : SqL K H' a xs := by
  rcases h with (h | ⟨o, h⟩) | h
  · exact .inl (.inl (k.keep _ _ h n))
  · exact .inl (.inr ⟨o, k.frzs _ _ _ h⟩)
  · exact .inr h
theorem notin1 {a b : Addr} (h : a ≠ b) : a ∉ ([b] : List Addr) := by simpa using h
theorem notin3 {a b c d : Addr} (h : a ≠ b) (h' : a ≠ c) (h'' : a ≠ d) : a ∉ ([b, c, d] : List Addr) := by simp [h, h', h'']
theorem notin2 {a b c : Addr} (h : a ≠ b) (h' : a ≠ c) : a ∉ ([b, c] : List Addr) := by simp [h, h']

/-! ### tuple data: what a value tells where it and all within it are vI, texts, bools, None, tuples -/
mutual
inductive Td (K : PySem.W.Frag) (H : Hp) : V → PyData → Prop
  | non : Td K H .non .none
  | bl (b : Bool) : Td K H (.bl b) (.bool b)
  | int (i : Int) : Td K H (.int i) (.int i)
  | str (x : Str) : Td K H (.str x) (.str x)
  | tup {a : Addr} {xs : List V} {ds : List PyData} : SqT K H a xs → TdA K H xs ds → Td K H (.ref a) (.tuple ds)
inductive TdA (K : PySem.W.Frag) (H : Hp) : List V → List PyData → Prop
  | nil : TdA K H [] []
  | cons {v : V} {vs : List V} {d : PyData} {ds : List PyData} : Td K H v d → TdA K H vs ds → TdA K H (v :: vs) (d :: ds)
end
section
variable {K : PySem.W.Frag} {M : List Addr} {H H' : Hp} {v : V} {vs : List V} {d : PyData} {ds : List PyData}
mutual
theorem Td.mono (f : ∀ a xs, SqT K H a xs → SqT K H' a xs) : ∀ {d : PyData} {v : V}, Td K H v d → Td K H' v d
  | _, _, .non => .non
  | _, _, .bl b => .bl b
  | _, _, .int i => .int i
  | _, _, .str x => .str x
  | _, _, .tup h t => .tup (f _ _ h) (TdA.mono f t)
theorem TdA.mono (f : ∀ a xs, SqT K H a xs → SqT K H' a xs) : ∀ {ds : List PyData} {vs : List V}, TdA K H vs ds → TdA K H' vs ds
  | _, _, .nil => .nil
  | _, _, .cons h t => .cons (Td.mono f h) (TdA.mono f t)
end
mutual
theorem Td.dp : ∀ {d : PyData} {v : V}, Td K H v d → Dp K H v d
  | _, _, .non => .non
  | _, _, .bl b => .bl b
  | _, _, .int i => .int i
  | _, _, .str x => .str x
  | _, _, .tup h t => .tup h (TdA.dp t)
theorem TdA.dp : ∀ {ds : List PyData} {vs : List V}, TdA K H vs ds → DpAll K H vs ds
  | _, _, .nil => .nil
  | _, _, .cons h t => .cons (Td.dp h) (TdA.dp t)
end
theorem Kp.td (k : Kp M H H') (h : Td K H v d) : Td K H' v d := h.mono fun _ _ q => k.sqT q
theorem Kp.tdA (k : Kp M H H') (h : TdA K H vs ds) : TdA K H' vs ds := h.mono fun _ _ q => k.sqT q
theorem TdA.length : ∀ {vs : List V} {ds : List PyData}, TdA K H vs ds → vs.length = ds.length
  | _, _, .nil => rfl
  | _, _, .cons _ t => by simp [t.length]
theorem TdA.get : ∀ {vs : List V} {ds : List PyData} {i : Nat} {d : PyData}, TdA K H vs ds → ds[i]? = some d → ∃ v, vs[i]? = some v ∧ Td K H v d
  | _, _, _, _, .nil, e => by simp at e
  | _, _, 0, _, .cons r _, e => by simp at e; subst e; exact ⟨_, rfl, r⟩
  | _, _, i + 1, d, .cons _ t, e => by
    obtain ⟨v, h1, h2⟩ := TdA.get (i := i) (d := d) t (by simpa using e)
    exact ⟨v, by simpa using h1, h2⟩
theorem TdA.app : ∀ {vs ws : List V} {ds es : List PyData}, TdA K H vs ds → TdA K H ws es → TdA K H (vs ++ ws) (ds ++ es)
  | _, _, _, _, .nil, s => s
  | _, _, _, _, .cons r t, s => .cons r (TdA.app t s)
theorem TdA.take : ∀ {vs : List V} {ds : List PyData} (n : Nat), TdA K H vs ds → TdA K H (vs.take n) (ds.take n)
  | _, _, 0, _ => .nil
  | _, _, _ + 1, .nil => .nil
  | _, _, n + 1, .cons r t => .cons r (TdA.take n t)
theorem TdA.drop : ∀ {vs : List V} {ds : List PyData} (n : Nat), TdA K H vs ds → TdA K H (vs.drop n) (ds.drop n)
  | _, _, 0, r => r
  | _, _, _ + 1, .nil => .nil
  | _, _, n + 1, .cons _ t => TdA.drop n t
theorem TdA.vI : ∀ ns : List Int, TdA K H (ns.map V.int) (ns.map PyData.int)
  | [] => .nil
  | n :: r => .cons (.int n) (TdA.vI r)
theorem Td.inv (h : Td K H v (.tuple ds)) : ∃ a xs, v = .ref a ∧ SqT K H a xs ∧ TdA K H xs ds := by
  cases h with
  | tup q t => exact ⟨_, _, rfl, q, t⟩
theorem Td.intInv {i : Int} (h : Td K H v (.int i)) : v = .int i := by cases h; rfl
theorem Td.strInv {x : Str} (h : Td K H v (.str x)) : v = .str x := by cases h; rfl
theorem TdA.vIInv : ∀ {ns : List Int} {vs : List V}, TdA K H vs (ns.map PyData.int) → vs = ns.map V.int
  | [], _, .nil => rfl
  | n :: r, _, .cons h t => by rw [h.intInv, t.vIInv]; rfl
end

/-- a tuple of the module's top -/
def KT (K : PySem.W.Frag) (a : Addr) (xs : List V) : Prop := ∀ H, SqT K H a xs
theorem KT.sq {K : PySem.W.Frag} {H : Hp} {a : Addr} {xs : List V} (h : KT K a xs) : SqT K H a xs := h H
/-! ### a tuple of vI -/
def vI (ns : List Int) : List V := ns.map V.int
def dInts (ns : List Int) : PyData := .tuple (ns.map PyData.int)
theorem vI_length (ns : List Int) : (vI ns).length = ns.length := List.length_map _
theorem vI_get {ns : List Int} {j : Nat} {z : Int} (h : ns[j]? = some z) : (vI ns)[j]? = some (.int z) := by
  unfold vI
  rw [List.getElem?_map, h]
  rfl
theorem vI_inj {a b : List Int} (h : vI a = vI b) : a = b := (List.map_inj_right (fun _ _ e => by cases e; rfl)).mp h
theorem Td.vI {K : PySem.W.Frag} {H : Hp} {a : Addr} {ns : List Int} (h : SqT K H a (vI ns)) : Td K H (.ref a) (dInts ns) := .tup h (TdA.vI ns)

/-! ### one lemma a piece of a reading; what comes next keeps a name of its own, so that no place is lost -/
def mkT (Q : VK) : List V → Hp → Prop := fun xs H => xs.length ≤ sizeLine ∧ ∀ p, H p = none → Q (.ref p) (upd H p (.tup xs))
def mkL (Q : VK) : List V → Hp → Prop := fun xs H => xs.length ≤ sizeLine ∧ ∀ p, H p = none → Q (.ref p) (upd H p (.lst xs))
def xBl (Q : Bool → Hp → Prop) : VK := fun x H => ∃ k, x = .bl k ∧ Q k H
def xInt (Q : Option Int → Hp → Prop) : VK := fun x H => ∃ i, x = .int i ∧ Q (some i) H
def cIf (A B : Hp → Prop) : Bool → Hp → Prop := fun b H => if b = true then A H else B H
def xIf (A B : Hp → Prop) : VK := fun x H => ∃ c, x = .bl c ∧ if c = true then A H else B H
def cNot (Q : Bool → Hp → Prop) : Bool → Hp → Prop := fun c H => Q (!c) H
def xNot (Q : VK) : VK := fun x H => ∃ c, x = .bl c ∧ Q (.bl (!c)) H
def xFld (K : PySem.W.Frag) (f : Str) (Q : VK) : VK := fun x H => ∃ a C dx fs v, x = .ref a ∧ H a = some (.ins C dx fs) ∧ Cls K C ∧ NoAttr K C f ∧ fs.lookup f = some v ∧ Q v H
def xPar (F : V → V → Hp → Prop) : List V → Hp → Prop := fun vs H => ∃ v w, vs = [v, w] ∧ F v w H
def xStar (K : PySem.W.Frag) (tl : TA) (σ : L2.St) (Q : List V → Hp → Prop) : VK := fun x H => ∃ p xs, x = V.ref p ∧ (SqT K H p xs ∨ SqL K H p xs) ∧ tl σ H fun ys H2 => Q (xs ++ ys) H2
def xBM (K : PySem.W.Frag) (T : String) (q : V → List V → Hp → VK → Prop) (tl : TA) (σ : L2.St) (Q : VK) : VK := fun x H => tyV K T x H ∧ tl σ H fun xs H2 => q x xs H2 Q
def xBM0 (K : PySem.W.Frag) (T : String) (q : V → List V → Hp → VK → Prop) (Q : VK) : VK := fun x H => tyV K T x H ∧ q x [] H Q
def rLenS (K : PySem.W.Frag) : List V → Hp → VK → Prop := fun xs H Q => ∃ p ys, xs = [.ref p] ∧ (SqL K H p ys ∨ SqT K H p ys) ∧ Q (.int ys.length) H
def rInt1 : List V → Hp → VK → Prop := fun xs H Q => (∃ i, xs = [.int i] ∧ Q (.int i) H) ∨ ∃ k, xs = [.bl k] ∧ Q (.int (if k then 1 else 0)) H
def rMax2 : List V → Hp → VK → Prop := fun xs H Q => ∃ i j, xs = [.int i, .int j] ∧ Q (.int (if j > i then j else i)) H
def rMin2 : List V → Hp → VK → Prop := fun xs H Q => ∃ i j, xs = [.int i, .int j] ∧ Q (.int (if j < i then j else i)) H
def rAbs : List V → Hp → VK → Prop := fun xs H Q => ∃ i, xs = [.int i] ∧ Q (.int (if i < 0 then -i else i)) H
def rListOf (K : PySem.W.Frag) : List V → Hp → VK → Prop := fun xs H Q => ∃ p ys, xs = [.ref p] ∧ (SqL K H p ys ∨ SqT K H p ys) ∧ ∀ l, H l = none → Q (.ref l) (upd H l (.lst ys))
def rTupOf (K : PySem.W.Frag) : List V → Hp → VK → Prop := fun xs H Q => ∃ p ys, xs = [.ref p] ∧ ((SqL K H p ys ∧ ∀ l, H l = none → Q (.ref l) (upd H l (.tup ys))) ∨ (SqT K H p ys ∧ Q (.ref p) H))
def rIsN : R2 := fun x y H Q => y = .non ∧ Q (.bl (decide (x = .non))) H
def rNotN : R2 := fun x y H Q => y = .non ∧ Q (.bl (!decide (x = .non))) H
section
variable {X : Cx}
theorem w_isN : OpR X (compareOp .Is) rIsN := op_isN
theorem w_notN : OpR X (compareOp .IsNot) rNotN := op_notN
theorem w_len : CallR X (.builtin "len") (rLenS X.K) := call_len_seq
theorem w_int : CallR X (.type "int") rInt1 := call_int1
theorem w_max2 (hc : X.calm = true) : CallR X (.builtin "max") rMax2 := call_max2 hc
theorem w_min2 (hc : X.calm = true) : CallR X (.builtin "min") rMin2 := call_min2 hc
theorem w_abs : CallR X (.builtin "abs") rAbs := call_abs
theorem w_list : CallR X (.type "list") (rListOf X.K) := call_list_of
theorem w_tuple : CallR X (.type "tuple") (rTupOf X.K) := call_tuple_of
end
section
variable {K : PySem.W.Frag} {σ : L2.St} {H : Hp} {D : Ends} {Q : VK} {v x y z : V} {ta tb te : TE} {t u : TS} {c tt : TT} {tl tr : TA} {r : R2}
theorem g_seq (k : t { D with nx := u D } σ H) : tSeq t u D σ H := k
theorem g_asg {i : Nat} (k : te σ H fun x H1 => D.nx (σ.set i (some x)) H1) : tAsg te (gName i) D σ H := k
theorem g_asgG {g : TG} (k : te σ H fun x H1 => g x σ H1 D.nx) : tAsg te g D σ H := k
theorem g_ret (k : te σ H D.rt) : tRet te D σ H := k
theorem g_retN (k : D.rt .non H) : tRetN D σ H := k
theorem g_ifS (k : c σ H (cIf (t D σ) (u D σ))) : tIfS c t u D σ H := k
theorem g_drop (k : te σ H fun _ H1 => D.nx σ H1) : tDrop te D σ H := k
theorem g_next (k : D.nx σ H) : tNext D σ H := k
theorem g_par {i j : Nat} (k : tl σ H (xPar fun v w H1 => D.nx ((σ.set i (some v)).set j (some w)) H1)) : tPar i j tl D σ H := k
theorem g_xPar {a b : V} {F : V → V → Hp → Prop} (k : F a b H) : xPar F [a, b] H := ⟨a, b, rfl, k⟩
theorem g_var {i : Nat} (h : σ[i]? = some (some v)) (k : Q v H) : tVar i σ H Q := ⟨v, h, k⟩
theorem g_c (k : Q v H) : tC v σ H Q := k
theorem g_op (k : ta σ H fun x H1 => tb σ H1 fun y H2 => r x y H2 Q) : tOp r ta tb σ H Q := k
theorem g_un {q : V → Hp → VK → Prop} (k : ta σ H fun x H1 => q x H1 Q) : tUn q ta σ H Q := k
theorem g_rI0 {g : Int → Int → V} {i j : Int} (k : Q (g i j) H) : rI0 g (.int i) (.int j) H Q := ⟨i, j, rfl, rfl, k⟩
theorem g_rI {C : Int → Int → Prop} {g : Int → Int → V} {i j : Int} (h : C i j) (k : Q (g i j) H) : rI C g (.int i) (.int j) H Q := ⟨i, j, rfl, rfl, h, k⟩
theorem g_rU {g : Int → V} {i : Int} (k : Q (g i) H) : rU g (.int i) H Q := ⟨i, rfl, k⟩
theorem g_rEq (h : scal x y = true) (k : Q (.bl (decide (x = y))) H) : rEq x y H Q := ⟨h, k⟩
theorem g_rNe (h : scal x y = true) (k : Q (.bl (!decide (x = y))) H) : rNe x y H Q := ⟨h, k⟩
theorem g_rEqI {i j : Int} (k : Q (.bl (decide (i = j))) H) : rEq (.int i) (.int j) H Q := ⟨rfl, by
  have e : decide (V.int i = V.int j) = decide (i = j) := decide_eq_decide.mpr ⟨fun h => V.int.inj h, fun h => congrArg V.int h⟩
  rw [e]
  exact k⟩
theorem g_rNeI {i j : Int} (k : Q (.bl (!decide (i = j))) H) : rNe (.int i) (.int j) H Q := ⟨rfl, by
  have e : decide (V.int i = V.int j) = decide (i = j) := decide_eq_decide.mpr ⟨fun h => V.int.inj h, fun h => congrArg V.int h⟩
  rw [e]
  exact k⟩
theorem g_rEqS {i j : Str} (k : Q (.bl (decide (i = j))) H) : rEq (.str i) (.str j) H Q := ⟨rfl, by
  have e : decide (V.str i = V.str j) = decide (i = j) := decide_eq_decide.mpr ⟨fun h => V.str.inj h, fun h => congrArg V.str h⟩
  rw [e]
  exact k⟩
theorem g_rNeS {i j : Str} (k : Q (.bl (!decide (i = j))) H) : rNe (.str i) (.str j) H Q := ⟨rfl, by
  have e : decide (V.str i = V.str j) = decide (i = j) := decide_eq_decide.mpr ⟨fun h => V.str.inj h, fun h => congrArg V.str h⟩
  rw [e]
  exact k⟩
theorem g_rEqD {d e : PyData} (h1 : Td K H x d) (h2 : Td K H y e) (s1 : SeqAt.shaped d = true) (s2 : SeqAt.shaped e = true) (k : Q (.bl (PyData.eqv d e)) H) : rEqD K x y H Q := ⟨d, e, h1.dp, h2.dp, s1, s2, k⟩
theorem g_rNeD {d e : PyData} (h1 : Td K H x d) (h2 : Td K H y e) (s1 : SeqAt.shaped d = true) (s2 : SeqAt.shaped e = true) (k : Q (.bl (!PyData.eqv d e)) H) : rNeD K x y H Q := ⟨d, e, h1.dp, h2.dp, s1, s2, k⟩
theorem g_rEqDp {d e : PyData} (h1 : Dp K H x d) (h2 : Dp K H y e) (s1 : SeqAt.shaped d = true) (s2 : SeqAt.shaped e = true) (k : Q (.bl (PyData.eqv d e)) H) : rEqD K x y H Q := ⟨d, e, h1, h2, s1, s2, k⟩
theorem g_rNeDp {d e : PyData} (h1 : Dp K H x d) (h2 : Dp K H y e) (s1 : SeqAt.shaped d = true) (s2 : SeqAt.shaped e = true) (k : Q (.bl (!PyData.eqv d e)) H) : rNeD K x y H Q := ⟨d, e, h1, h2, s1, s2, k⟩
theorem g_nil {Q : List V → Hp → Prop} (k : Q [] H) : tNil σ H Q := k
theorem g_cons {Q : List V → Hp → Prop} (k : te σ H fun x H1 => tr σ H1 fun xs H2 => Q (x :: xs) H2) : tCons te tr σ H Q := k
theorem g_tTest {Q : Bool → Hp → Prop} (k : te σ H (xBl Q)) : tTest te σ H Q := k
theorem g_tB {Q : Bool → Hp → Prop} (k : te σ H (xBl Q)) : tB te σ H Q := k
theorem g_xBl {b : Bool} {Q : Bool → Hp → Prop} (k : Q b H) : xBl Q (.bl b) H := ⟨b, rfl, k⟩
theorem g_xInt {b : Int} {Q : Option Int → Hp → Prop} (k : Q (some b) H) : xInt Q (.int b) H := ⟨b, rfl, k⟩
theorem g_and {Q : Bool → Hp → Prop} {t u : TT} (k : t σ H (cIf (fun H1 => u σ H1 Q) (Q false))) : tAnd t u σ H Q := k
theorem g_or {Q : Bool → Hp → Prop} {t u : TT} (k : t σ H (cIf (Q true) fun H1 => u σ H1 Q)) : tOr t u σ H Q := k
theorem g_not {Q : Bool → Hp → Prop} {t : TT} (k : t σ H (cNot Q)) : tNot t σ H Q := k
theorem g_cNot {b : Bool} {Q : Bool → Hp → Prop} (k : Q (!b) H) : cNot Q b H := k
theorem g_andV (k : ta σ H (xIf (fun H1 => tb σ H1 Q) (Q (.bl false)))) : tAndV ta tb σ H Q := k
theorem g_orV (k : ta σ H (xIf (Q (.bl true)) fun H1 => tb σ H1 Q)) : tOrV ta tb σ H Q := k
theorem g_notV (k : ta σ H (xNot Q)) : tNotV ta σ H Q := k
theorem g_xNot {b : Bool} (k : Q (.bl (!b)) H) : xNot Q (.bl b) H := ⟨b, rfl, k⟩
theorem g_xIf {b : Bool} {A B : Hp → Prop} (k : cIf A B b H) : xIf A B (.bl b) H := ⟨b, rfl, k⟩
theorem g_tIf (k : c σ H (cIf (fun H1 => ta σ H1 Q) fun H1 => tb σ H1 Q)) : tIf c ta tb σ H Q := k
theorem g_chain {r' : R2} {tc : TE} (k : ta σ H fun x H1 => tb σ H1 fun y H2 => r x y H2 (xIf (fun H3 => tc σ H3 fun u H4 => r' y u H4 Q) (Q (.bl false)))) : tChain r r' ta tb tc σ H Q := k
theorem g_call {sp : Sp} {E : XK} (k : tl σ H fun vs H1 => sp vs H1 Q E) : tCall sp [] E tl σ H Q := by
  have e : (fun (vs : List V) (H1 : Hp) => sp (vs ++ []) H1 Q E) = fun vs H1 => sp vs H1 Q E := by
    funext vs H1
    rw [List.append_nil]
  show tl σ H (fun vs H1 => sp (vs ++ []) H1 Q E)
  rw [e]
  exact k
theorem g_cb {q : List V → Hp → VK → Prop} (k : tl σ H fun vs H1 => q vs H1 Q) : tCB q tl σ H Q := k
theorem g_tup (k : tl σ H (mkT Q)) : tTup tl σ H Q := k
theorem g_lst (k : tl σ H (mkL Q)) : tLst tl σ H Q := k
/-- a new object -/
theorem g_newT {xs : List V} (k : ∀ p H2, H p = none → Kp [] H H2 → H2 p = some (.tup xs) → Q (.ref p) H2) : ∀ p, H p = none → Q (.ref p) (upd H p (.tup xs)) := fun p n => k p _ n (Kp.new n) upd_same
theorem g_newL {xs : List V} (k : ∀ p H2, H p = none → Kp [] H H2 → H2 p = some (.lst xs) → Q (.ref p) H2) : ∀ p, H p = none → Q (.ref p) (upd H p (.lst xs)) := fun p n => k p _ n (Kp.new n) upd_same
theorem lenOk {n : Nat} (h : Nat.ble n 1000000 = true) : n ≤ 1000000 := Nat.le_of_ble_eq_true h
theorem le_line {n : Nat} (h : n ≤ 1000000) : n ≤ sizeLine := Nat.le_trans h (by decide)
theorem lt_line {n : Nat} (h : n ≤ 1000000) : n < sizeLine := Nat.lt_of_le_of_lt h (by decide)
theorem g_mkT {xs : List V} (h : xs.length ≤ 1000000) (k : ∀ p H2, H p = none → Kp [] H H2 → H2 p = some (.tup xs) → Q (.ref p) H2) : mkT Q xs H := ⟨le_line h, g_newT k⟩
theorem g_mkL {xs : List V} (h : xs.length ≤ 1000000) (k : ∀ p H2, H p = none → Kp [] H H2 → H2 p = some (.lst xs) → Q (.ref p) H2) : mkL Q xs H := ⟨le_line h, g_newL k⟩
theorem g_star {Q : List V → Hp → Prop} (k : te σ H (xStar K tr σ Q)) : tStar K te tr σ H Q := k
theorem g_xStarT {p : Addr} {xs : List V} {Q : List V → Hp → Prop} (h : SqT K H p xs) (k : tl σ H fun ys H2 => Q (xs ++ ys) H2) : xStar K tl σ Q (.ref p) H := ⟨p, xs, rfl, .inl h, k⟩
theorem g_xStarL {p : Addr} {xs : List V} {Q : List V → Hp → Prop} (h : SqL K H p xs) (k : tl σ H fun ys H2 => Q (xs ++ ys) H2) : xStar K tl σ Q (.ref p) H := ⟨p, xs, rfl, .inr h, k⟩
theorem g_ixT {p : Addr} {xs : List V} {i : Int} (h : SqT K H p xs) (ha : atI xs i = some v) (k : Q v H) : rIxT K (.ref p) (.int i) H Q := ⟨p, xs, i, v, rfl, rfl, h, ha, k⟩
theorem g_ixL {p : Addr} {xs : List V} {i : Int} (h : SqL K H p xs) (ha : atI xs i = some v) (k : Q v H) : rIxL K (.ref p) (.int i) H Q := ⟨p, xs, i, v, rfl, rfl, h, ha, k⟩
theorem g_sl {q : V → Option Int → Option Int → Hp → VK → Prop} {lo hi : TO} (k : te σ H fun x H1 => lo σ H1 fun l H2 => hi σ H2 fun u H3 => q x l u H3 Q) : tSl q te lo hi σ H Q := k
theorem g_noPart {Q : Option Int → Hp → Prop} (k : Q none H) : tNoPart σ H Q := k
theorem g_part {Q : Option Int → Hp → Prop} (k : te σ H (xInt Q)) : tPart te σ H Q := k
theorem g_fld {f : Str} (k : ta σ H (xFld K f Q)) : tFld K ta f σ H Q := k
theorem g_xFld {f : Str} {a C dx : Addr} {fs : List (Str × V)} (h : H a = some (.ins C dx fs)) (c : Cls K C) (n : NoAttr K C f) (l : fs.lookup f = some v) (k : Q v H) : xFld K f Q (.ref a) H := ⟨a, C, dx, fs, v, rfl, h, c, n, l, k⟩
theorem g_gSub {to ti : TE} {s : TSet} {Q : L2.St → Hp → Prop} (k : to σ H fun o H1 => ti σ H1 fun i H2 => s o i v H2 fun H3 => Q σ H3) : gSub to ti s v σ H Q := k
theorem g_setL {p : Addr} {xs : List V} {i : Int} {j : Nat} {Q : Hp → Prop} (h : H p = some (.lst xs)) (hj : ixN xs.length i = some j) (k : ∀ H2, Kp [p] H H2 → H2 p = some (.lst (xs.set j v)) → Q H2) : rSetL (.ref p) (.int i) v H Q :=
  ⟨p, xs, i, j, rfl, rfl, h, hj, k _ (Kp.write h) upd_same⟩
theorem g_append {p : Addr} {xs : List V} (h : H p = some (.lst xs)) (hz : xs.length ≤ 1000000) (k : ∀ H2, Kp [p] H H2 → H2 p = some (.lst (xs ++ [v])) → Q .non H2) : rAppend (.ref p) [v] H Q :=
  ⟨p, xs, v, rfl, rfl, h, lt_line hz, k _ (Kp.write h) upd_same⟩
theorem g_extend {p b : Addr} {xs ys : List V} (h : H p = some (.lst xs)) (h' : H b = some (.lst ys)) (hz : xs.length + ys.length ≤ 1000000) (k : ∀ H2, Kp [p] H H2 → H2 p = some (.lst (xs ++ ys)) → Q .non H2) : rExtend (.ref p) [.ref b] H Q :=
  ⟨p, b, xs, ys, rfl, rfl, h, h', le_line hz, k _ (Kp.write h) upd_same⟩
theorem g_bm {T : String} {q : V → List V → Hp → VK → Prop} (k : ta σ H (xBM K T q tl σ Q)) : tBM K T q ta tl σ H Q := k
theorem g_bm0 {T : String} {q : V → List V → Hp → VK → Prop} (k : ta σ H (xBM0 K T q Q)) : tBM0 K T q ta σ H Q := k
theorem g_xBML {p : Addr} {ys : List V} {q : V → List V → Hp → VK → Prop} (h : SqL K H p ys) (k : tl σ H fun xs H2 => q (.ref p) xs H2 Q) : xBM K "list" q tl σ Q (.ref p) H := ⟨.inl ⟨rfl, _, h⟩, k⟩
theorem g_xBM0L {p : Addr} {ys : List V} {q : V → List V → Hp → VK → Prop} (h : SqL K H p ys) (k : q (.ref p) [] H Q) : xBM0 K "list" q Q (.ref p) H := ⟨.inl ⟨rfl, _, h⟩, k⟩
theorem g_cat {p b : Addr} {xs ys : List V} (h : H p = some (.lst xs)) (h' : H b = some (.lst ys)) (hz : xs.length + ys.length ≤ 1000000) (k : ∀ q H2, H q = none → Kp [] H H2 → H2 q = some (.lst (xs ++ ys)) → Q (.ref q) H2) : rCat (.ref p) (.ref b) H Q :=
  ⟨p, b, xs, ys, rfl, rfl, h, h', le_line hz, g_newL k⟩
/-- t + u of tuples: a tuple, of both -/
theorem g_catA {p b : Addr} {xs ys : List V} (h : SqT K H p xs) (h' : SqT K H b ys) (hz : xs.length + ys.length ≤ 1000000) (k : ∀ q H2, Kp [] H H2 → SqT K H2 q (xs ++ ys) → Q (.ref q) H2) : rCatA K (.ref p) (.ref b) H Q := by
  refine ⟨p, b, xs, ys, rfl, rfl, h, h', le_line hz, fun e => ?_, fun _ e => ?_, fun _ _ q n => k q _ (Kp.new n) (SqT.of upd_same)⟩
  · subst e
    exact k b H (Kp.refl H) h'
  · subst e
    exact k p H (Kp.refl H) (by rw [List.append_nil]; exact h)
theorem g_lenL {p : Addr} {xs : List V} (h : SqL K H p xs) (k : Q (.int xs.length) H) : rLenS K [V.ref p] H Q := ⟨p, xs, rfl, .inl h, k⟩
theorem g_lenT {p : Addr} {xs : List V} (h : SqT K H p xs) (k : Q (.int xs.length) H) : rLenS K [V.ref p] H Q := ⟨p, xs, rfl, .inr h, k⟩
theorem g_int1 {i : Int} (k : Q (.int i) H) : rInt1 [V.int i] H Q := .inl ⟨i, rfl, k⟩
theorem g_max2 {i j : Int} (k : Q (.int (if j > i then j else i)) H) : rMax2 [V.int i, .int j] H Q := ⟨i, j, rfl, k⟩
theorem g_min2 {i j : Int} (k : Q (.int (if j < i then j else i)) H) : rMin2 [V.int i, .int j] H Q := ⟨i, j, rfl, k⟩
theorem g_abs {i : Int} (k : Q (.int (if i < 0 then -i else i)) H) : rAbs [V.int i] H Q := ⟨i, rfl, k⟩
theorem g_listL {p : Addr} {xs : List V} (h : SqL K H p xs) (k : ∀ l H2, H l = none → Kp [] H H2 → H2 l = some (.lst xs) → Q (.ref l) H2) : rListOf K [V.ref p] H Q := ⟨p, xs, rfl, .inl h, g_newL k⟩
theorem g_listT {p : Addr} {xs : List V} (h : SqT K H p xs) (k : ∀ l H2, H l = none → Kp [] H H2 → H2 l = some (.lst xs) → Q (.ref l) H2) : rListOf K [V.ref p] H Q := ⟨p, xs, rfl, .inr h, g_newL k⟩
theorem g_tupL {p : Addr} {xs : List V} (h : SqL K H p xs) (k : ∀ l H2, H l = none → Kp [] H H2 → H2 l = some (.tup xs) → Q (.ref l) H2) : rTupOf K [V.ref p] H Q := ⟨p, xs, rfl, .inl ⟨h, g_newT k⟩⟩
theorem g_slA {a : Addr} {xs : List V} {lo hi : Option Int} (h : SqT K H a xs) (k : ∀ q H2, Kp [] H H2 → SqT K H2 q (cutV xs lo hi) → Q (.ref q) H2) : rSlA K (.ref a) lo hi H Q := by
  refine ⟨a, xs, rfl, h, fun ⟨e1, e2⟩ => k a H (Kp.refl H) ?_, fun _ p n => k p _ (Kp.new n) (SqT.of upd_same)⟩
  unfold cutV
  rw [e1, e2, List.drop_zero, Nat.sub_zero, List.take_length]
  exact h
theorem g_slL {a : Addr} {xs : List V} {lo hi : Option Int} (h : SqL K H a xs) (k : ∀ q H2, H q = none → Kp [] H H2 → H2 q = some (.lst (cutV xs lo hi)) → Q (.ref q) H2) : rSlL K (.ref a) lo hi H Q := ⟨a, xs, rfl, h, g_newL k⟩
theorem g_sum {a : Addr} {ns : List Int} (h : SqL K H a (ns.map V.int)) (k : Q (.int ns.sum) H) : rSum K [.ref a] H Q := ⟨a, ns, rfl, h, k⟩
theorem g_all {a : Addr} {bs : List Bool} (h : SqL K H a (bs.map V.bl)) (k : Q (.bl (bs.all id)) H) : rAll K [.ref a] H Q := ⟨a, bs, rfl, h, k⟩
theorem g_any {a : Addr} {bs : List Bool} (h : SqL K H a (bs.map V.bl)) (k : Q (.bl (bs.any id)) H) : rAny K [.ref a] H Q := ⟨a, bs, rfl, h, k⟩
theorem g_inT {x : V} {p : Addr} {xs : List V} (h : SqT K H p xs) (hx : flatV x = true) (ha : xs.all flatV = true) (k : Q (.bl (inV x xs)) H) : rIn K false x (.ref p) H Q := ⟨p, xs, rfl, .inr h, hx, ha, k⟩
theorem g_ninT {x : V} {p : Addr} {xs : List V} (h : SqT K H p xs) (hx : flatV x = true) (ha : xs.all flatV = true) (k : Q (.bl (!inV x xs)) H) : rIn K true x (.ref p) H Q := ⟨p, xs, rfl, .inr h, hx, ha, k⟩
theorem g_inL {x : V} {p : Addr} {xs : List V} (h : SqL K H p xs) (hx : flatV x = true) (ha : xs.all flatV = true) (k : Q (.bl (inV x xs)) H) : rIn K false x (.ref p) H Q := ⟨p, xs, rfl, .inl h, hx, ha, k⟩
theorem g_ixD {w : World} {p : Addr} {z : Str} (h : KDct K w p z v) (k : Q v H) : rIxD K w (.ref p) (.str z) H Q := ⟨p, z, v, rfl, rfl, h, k⟩
theorem g_ixSL {p : Addr} {xs : List V} {i : Int} (h : SqL K H p xs) (ha : atI xs i = some v) (k : Q v H) : rIx K (.ref p) (.int i) H Q := .inl (g_ixL h ha k)
theorem g_ixST {p : Addr} {xs : List V} {i : Int} (h : SqT K H p xs) (ha : atI xs i = some v) (k : Q v H) : rIx K (.ref p) (.int i) H Q := .inr (.inl (g_ixT h ha k))
theorem g_rIsN (k : Q (.bl (decide (x = .non))) H) : rIsN x .non H Q := ⟨rfl, k⟩
theorem g_rNotN (k : Q (.bl (!decide (x = .non))) H) : rNotN x .non H Q := ⟨rfl, k⟩
theorem g_then {b : Bool} {A B : Hp → Prop} (h : b = true) (k : A H) : cIf A B b H := by unfold cIf; rw [if_pos h]; exact k
theorem g_else {b : Bool} {A B : Hp → Prop} (h : b = false) (k : B H) : cIf A B b H := by unfold cIf; rw [if_neg (by rw [h]; exact Bool.false_ne_true)]; exact k
/-- both ways of a test -/
theorem g_both {p : Prop} [Decidable p] {A B : Hp → Prop} (h1 : p → A H) (h2 : ¬ p → B H) : cIf A B (decide p) H := by
  by_cases h : p
  · exact g_then (decide_eq_true h) (h1 h)
  · exact g_else (decide_eq_false h) (h2 h)
theorem g_bothN {p : Prop} [Decidable p] {A B : Hp → Prop} (h1 : ¬ p → A H) (h2 : p → B H) : cIf A B (!decide p) H := by
  by_cases h : p
  · exact g_else (by rw [decide_eq_true h]; rfl) (h2 h)
  · exact g_then (by rw [decide_eq_false h]; rfl) (h1 h)
theorem g_two {b : Bool} {A B : Hp → Prop} (h1 : b = true → A H) (h2 : b = false → B H) : cIf A B b H := by
  cases b with
  | true => exact g_then rfl (h1 rfl)
  | false => exact g_else rfl (h2 rfl)
end
/-! ### loops -/
def xItl (K : PySem.W.Frag) (R : It → Hp → Prop) : VK := fun x H1 => ∃ a, x = .ref a ∧ (∃ xs, SqL K H1 a xs) ∧ R (Itl K a) H1
def xItt (K : PySem.W.Frag) (R : It → Hp → Prop) : VK := fun x H1 => ∃ a, x = .ref a ∧ (∃ xs, SqT K H1 a xs) ∧ R (Itt K a) H1
def xRng1 (R : It → Hp → Prop) : List V → Hp → Prop := fun vs H1 => ∃ j : Int, vs = [.int j] ∧ -(2 ^ 62) ≤ j ∧ j < 2 ^ 62 ∧ R (Itr 0 j.toNat) H1
def xRng2 (R : It → Hp → Prop) : List V → Hp → Prop := fun vs H1 => ∃ i j : Int, vs = [.int i, .int j] ∧ (-(2 ^ 62) ≤ i ∧ i < 2 ^ 62 ∧ -(2 ^ 62) ≤ j ∧ j < 2 ^ 62) ∧ R (Itr i (j - i).toNat) H1
def xFor (g : TG) (tb : TS) (D : Ends) (σ : L2.St) : It → Hp → Prop := fun J H1 => ∃ W : Nat → Nat → L2.St → Hp → Prop, (∃ m, W 0 m σ H1) ∧ ∀ i m σ H, W i m σ H →
  (J.stop i H ∧ D.nx σ H) ∨ (J.go i H ∧ ∃ N : L2.St → Hp → Prop, (∀ σ' H', N σ' H' → ∃ m', m' < m ∧ W (i + 1) m' σ' H') ∧ ∀ x H', J.yld i H x H' → g x σ H' fun σ2 H2 => tb { D with nx := N, ct := N, bk := D.nx } σ2 H2)
def xWh (tb : TS) (D : Ends) (I : Nat → L2.St → Hp → Prop) (m : Nat) (σ : L2.St) : Bool → Hp → Prop := fun b H1 =>
  if b = true then ∃ N : L2.St → Hp → Prop, (∀ σ' H', N σ' H' → ∃ m', m' < m ∧ I m' σ' H') ∧ tb { D with nx := N, ct := N, bk := D.nx } σ H1 else D.nx σ H1
def xEl (D : Addr) (P : Hp → Prop) : VK := fun y H4 => ∃ acc, H4 D = some (.lst acc) ∧ acc.length < sizeLine ∧ P (upd H4 D (.lst (acc ++ [y])))
def accP (D : Addr) (N : List V → Hp → Prop) : Hp → Prop := fun H' => ∃ acc, H' D = some (.lst acc) ∧ N acc H'
def xTurn (tt : TT) (te : TE) (vs : List Nat) (σ : L2.St) (D : Addr) (P : Hp → Prop) : L2.St → Hp → Prop := fun σ2 H2 => wipe σ2 vs = wipe σ vs ∧ tt σ2 H2 (cIf (fun H3 => te σ2 H3 (xEl D P)) P)
def xLc (g : TG) (tt : TT) (te : TE) (vs : List Nat) (σ : L2.St) (Q : VK) : It → Hp → Prop := fun J H1 => ∀ D, H1 D = none → ∃ W : Nat → Nat → Hp → Prop, (∃ m, W 0 m (upd H1 D (.lst []))) ∧ ∀ i m H, W i m H →
  (J.stop i H ∧ Q (.ref D) H) ∨ (J.go i H ∧ ∃ Nx : Hp → Prop, (∀ H', Nx H' → ∃ m', m' < m ∧ W (i + 1) m' H') ∧ ∀ x H', J.yld i H x H' → g x (wipe σ vs) H' (xTurn tt te vs σ D Nx))
section
variable {K : PySem.W.Frag} {σ : L2.St} {H : Hp} {D : Ends} {Q : VK} {v x y z : V} {ta tb te tl : TE} {t u tw : TS} {c tt : TT} {ti tr : TA} {wi : TI} {g : TG} {R : It → Hp → Prop}
theorem g_for (k : wi σ H (xFor g tw D σ)) : tFor wi g tw D σ H := k
theorem g_iList (k : tl σ H (xItl K R)) : iList K tl σ H R := k
theorem g_iTup (k : tl σ H (xItt K R)) : iTup K tl σ H R := k
theorem g_iRng1 (k : ti σ H (xRng1 R)) : iRng1 ti σ H R := k
theorem g_iRng2 (k : ti σ H (xRng2 R)) : iRng2 ti σ H R := k
theorem g_xItl {a : Addr} {xs : List V} (h : SqL K H a xs) (k : R (Itl K a) H) : xItl K R (.ref a) H := ⟨a, rfl, ⟨xs, h⟩, k⟩
theorem g_xItt {a : Addr} {xs : List V} (h : SqT K H a xs) (k : R (Itt K a) H) : xItt K R (.ref a) H := ⟨a, rfl, ⟨xs, h⟩, k⟩
theorem g_xRng1 {j : Int} (h1 : -(2 ^ 62) ≤ j) (h2 : j < 2 ^ 62) (k : R (Itr 0 j.toNat) H) : xRng1 R [.int j] H := ⟨j, rfl, h1, h2, k⟩
theorem g_xRng2 {i j : Int} (h : -(2 ^ 62) ≤ i ∧ i < 2 ^ 62 ∧ -(2 ^ 62) ≤ j ∧ j < 2 ^ 62) (k : R (Itr i (j - i).toNat) H) : xRng2 R [.int i, .int j] H := ⟨i, j, rfl, h, k⟩
theorem g_loopL {a : Addr} {xs : List V} (I : Nat → L2.St → Hp → Prop) (h0 : I 0 σ H) (hl : ∀ i σ' H', i ≤ xs.length → I i σ' H' → SqL K H' a xs)
    (hs : ∀ i x σ' H', xs[i]? = some x → I i σ' H' → g x σ' H' fun σ2 H2 => tw { D with nx := I (i + 1), ct := I (i + 1), bk := D.nx } σ2 H2) (hd : ∀ σ' H', I xs.length σ' H' → D.nx σ' H') : xFor g tw D σ (Itl K a) H := for_list I h0 hl hs hd
theorem g_loopT {a : Addr} {xs : List V} (I : Nat → L2.St → Hp → Prop) (h0 : I 0 σ H) (hl : ∀ i σ' H', i ≤ xs.length → I i σ' H' → SqT K H' a xs)
    (hs : ∀ i x σ' H', xs[i]? = some x → I i σ' H' → g x σ' H' fun σ2 H2 => tw { D with nx := I (i + 1), ct := I (i + 1), bk := D.nx } σ2 H2) (hd : ∀ σ' H', I xs.length σ' H' → D.nx σ' H') : xFor g tw D σ (Itt K a) H := for_tup I h0 hl hs hd
theorem g_loopR {lo : Int} {n : Nat} (I : Nat → L2.St → Hp → Prop) (h0 : I 0 σ H)
    (hs : ∀ i σ' H', i < n → I i σ' H' → g (.int (lo + i)) σ' H' fun σ2 H2 => tw { D with nx := I (i + 1), ct := I (i + 1), bk := D.nx } σ2 H2) (hd : ∀ σ' H', I n σ' H' → D.nx σ' H') : xFor g tw D σ (Itr lo n) H := for_range I h0 hs hd
theorem g_while (I : Nat → L2.St → Hp → Prop) (h0 : ∃ m, I m σ H) (hs : ∀ m σ' H', I m σ' H' → c σ' H' (xWh tw D I m σ')) : tWhile c tw D σ H := ⟨I, h0, hs⟩
theorem g_whT {I : Nat → L2.St → Hp → Prop} {m : Nat} (k : tw { D with nx := fun σ' H' => ∃ m', m' < m ∧ I m' σ' H', ct := fun σ' H' => ∃ m', m' < m ∧ I m' σ' H', bk := D.nx } σ H) : xWh tw D I m σ true H := by
  unfold xWh
  rw [if_pos rfl]
  exact ⟨_, fun _ _ h => h, k⟩
theorem g_whF {I : Nat → L2.St → Hp → Prop} {m : Nat} (k : D.nx σ H) : xWh tw D I m σ false H := by
  unfold xWh
  rw [if_neg Bool.false_ne_true]
  exact k
theorem g_whB {p : Prop} [Decidable p] {I : Nat → L2.St → Hp → Prop} {m : Nat} (h1 : p → xWh tw D I m σ true H) (h2 : ¬ p → xWh tw D I m σ false H) : xWh tw D I m σ (decide p) H := by
  by_cases h : p
  · rw [decide_eq_true h]
    exact h1 h
  · rw [decide_eq_false h]
    exact h2 h
theorem g_gName {i : Nat} {Q : L2.St → Hp → Prop} (k : Q (σ.set i (some v)) H) : gName i v σ H Q := k
theorem g_gTup {a : Addr} {xs : List V} {n : Nat} {tg : TGs} {Q : L2.St → Hp → Prop} (h : SqT K H a xs) (hl : xs.length = n) (k : tg xs σ H Q) : gTup K n tg (.ref a) σ H Q := ⟨a, xs, rfl, h, hl, k⟩
theorem g_gCons {tg : TG} {ug : TGs} {r : List V} {Q : L2.St → Hp → Prop} (k : tg v σ H fun σ' H' => ug r σ' H' Q) : gCons tg ug (v :: r) σ H Q := ⟨v, r, rfl, k⟩
theorem g_gNil {Q : L2.St → Hp → Prop} (k : Q σ H) : gNil [] σ H Q := ⟨rfl, k⟩
/-! comprehensions -/
theorem g_lc {vs : List Nat} (k : wi σ H (xLc g tt te vs σ Q)) : tLc wi g tt te vs σ H Q := k
theorem g_xTurn {vs : List Nat} {σ2 : L2.St} {D : Addr} {P : Hp → Prop} (h : wipe σ2 vs = wipe σ vs) (k : tt σ2 H (cIf (fun H3 => te σ2 H3 (xEl D P)) P)) : xTurn tt te vs σ D P σ2 H := ⟨h, k⟩
theorem g_yes {P : Bool → Hp → Prop} (k : P true H) : tYes σ H P := k
theorem g_xEl {D : Addr} {acc : List V} {N : List V → Hp → Prop} (h : H D = some (.lst acc)) (hz : acc.length ≤ 1000000) (k : ∀ H5, Kp [D] H H5 → H5 D = some (.lst (acc ++ [y])) → N (acc ++ [y]) H5) : xEl D (accP D N) y H :=
  ⟨acc, h, lt_line hz, acc ++ [y], upd_same, k _ (Kp.write h) upd_same⟩
theorem g_accP {D : Addr} {acc : List V} {N : List V → Hp → Prop} (h : H D = some (.lst acc)) (k : N acc H) : accP D N H := ⟨acc, h, k⟩
theorem g_compL {a : Addr} {xs : List V} {vs : List Nat} (G : Addr → Nat → List V → Hp → Prop) (h0 : ∀ D H1, H D = none → Kp [] H H1 → G D 0 [] H1) (hl : ∀ D i acc H', i ≤ xs.length → G D i acc H' → SqL K H' a xs)
    (hs : ∀ D i x acc H', H D = none → xs[i]? = some x → H' D = some (.lst acc) → G D i acc H' → g x (wipe σ vs) H' (xTurn tt te vs σ D (accP D (G D (i + 1)))))
    (hd : ∀ D acc H', H D = none → H' D = some (.lst acc) → G D xs.length acc H' → Q (.ref D) H') : xLc g tt te vs σ Q (Itl K a) H := fun D hD =>
  lc_list (K := K) (a := a) (xs := xs) (fun i => accP D (G D i)) ⟨[], upd_same, h0 D _ hD (Kp.new hD)⟩ (fun i H' hi ⟨acc, _, q⟩ => hl D i acc H' hi q) (fun i x H' hx ⟨acc, e, q⟩ => hs D i x acc H' hD hx e q) fun H' ⟨acc, e, q⟩ => hd D acc H' hD e q
theorem g_compT {a : Addr} {xs : List V} {vs : List Nat} (G : Addr → Nat → List V → Hp → Prop) (h0 : ∀ D H1, H D = none → Kp [] H H1 → G D 0 [] H1) (hl : ∀ D i acc H', i ≤ xs.length → G D i acc H' → SqT K H' a xs)
    (hs : ∀ D i x acc H', H D = none → xs[i]? = some x → H' D = some (.lst acc) → G D i acc H' → g x (wipe σ vs) H' (xTurn tt te vs σ D (accP D (G D (i + 1)))))
    (hd : ∀ D acc H', H D = none → H' D = some (.lst acc) → G D xs.length acc H' → Q (.ref D) H') : xLc g tt te vs σ Q (Itt K a) H := fun D hD =>
  lc_tup (K := K) (a := a) (xs := xs) (fun i => accP D (G D i)) ⟨[], upd_same, h0 D _ hD (Kp.new hD)⟩ (fun i H' hi ⟨acc, _, q⟩ => hl D i acc H' hi q) (fun i x H' hx ⟨acc, e, q⟩ => hs D i x acc H' hD hx e q) fun H' ⟨acc, e, q⟩ => hd D acc H' hD e q
theorem g_compR {lo : Int} {n : Nat} {vs : List Nat} (G : Addr → Nat → List V → Hp → Prop) (h0 : ∀ D H1, H D = none → Kp [] H H1 → G D 0 [] H1)
    (hs : ∀ D i acc H', H D = none → i < n → H' D = some (.lst acc) → G D i acc H' → g (.int (lo + i)) (wipe σ vs) H' (xTurn tt te vs σ D (accP D (G D (i + 1)))))
    (hd : ∀ D acc H', H D = none → H' D = some (.lst acc) → G D n acc H' → Q (.ref D) H') : xLc g tt te vs σ Q (Itr lo n) H := fun D hD =>
  lc_range (lo := lo) (n := n) (fun i => accP D (G D i)) ⟨[], upd_same, h0 D _ hD (Kp.new hD)⟩ (fun i H' hi ⟨acc, e, q⟩ => hs D i acc H' hD hi e q) fun H' ⟨acc, e, q⟩ => hd D acc H' hD e q
end
/-! ### the same rules, the written part said by its own name (within a comprehension) -/
section
variable {X : Cx} {K : PySem.W.Frag} {te tl : TE} {t : TA} {e l tg : Expr} {es : List Expr} {p pos : Pos} {f : Str}
theorem ix_listK (h : X.K = K := by rfl) : IxR X (rIxL K) := h ▸ ix_list
theorem ix_tupK (h : X.K = K := by rfl) : IxR X (rIxT K) := h ▸ ix_tup
theorem w_lenK (h : X.K = K := by rfl) : CallR X (.builtin "len") (rLenS K) := h ▸ w_len
theorem w_listK (h : X.K = K := by rfl) : CallR X (.type "list") (rListOf K) := h ▸ w_list
theorem w_tupleK (h : X.K = K := by rfl) : CallR X (.type "tuple") (rTupOf K) := h ▸ w_tuple
theorem w_isiK (h : X.K = K := by rfl) : CallR X (.builtin "isinstance") (rIsi K) := h ▸ call_isi
theorem ix_kdictK {w : World} (h : X.K = K := by rfl) (h' : X.w = w := by rfl) : IxR X (rIxD K w) := h ▸ h' ▸ ix_kdict
theorem w_isiTK (h : X.K = K := by rfl) : CallR X (.builtin "isinstance") (rIsiT K) := h ▸ call_isiT
theorem ix_seqK (h : X.K = K := by rfl) : IxR X (rIx K) := h ▸ ix_seq
theorem sl_listK (h : X.K = K := by rfl) : SlR X (rSlL K) := h ▸ sl_list
theorem sl_tupAK (h : X.K = K := by rfl) : SlR X (rSlA K) := h ▸ sl_tupA
theorem op_catAK (h : X.K = K := by rfl) : OpR X (binaryOp .Add) (rCatA K) := h ▸ op_catA
theorem op_inK (h : X.K = K := by rfl) : OpR X (compareOp .In) (rIn K false) := h ▸ op_in_seq
theorem op_notInK (h : X.K = K := by rfl) : OpR X (compareOp .NotIn) (rIn K true) := h ▸ op_notIn_seq
theorem op_eqDK {k : Nat} (hr : Room k X.A) (h : X.K = K := by rfl) : OpR X (compareOp .Eq) (rEqD K) := h ▸ op_eqD hr.units
theorem op_neDK {k : Nat} (hr : Room k X.A) (h : X.K = K := by rfl) : OpR X (compareOp .NotEq) (rNeD K) := h ▸ op_neD hr.units
theorem cr_sumK (hc : X.calm = true) (h : X.K = K := by rfl) : CallR X (.builtin "sum") (rSum K) := h ▸ cr_sum hc
theorem cr_allK (hc : X.calm = true) (h : X.K = K := by rfl) : CallR X (.builtin "all") (rAll K) := h ▸ cr_all hc
theorem cr_anyK (hc : X.calm = true) (h : X.K = K := by rfl) : CallR X (.builtin "any") (rAny K) := h ▸ cr_any hc
theorem cr_maxK (hc : X.calm = true) (h : X.K = K := by rfl) : CallR X (.builtin "max") (rMax K) := h ▸ cr_max hc
theorem pi_listK (hl : PE X l tl) (h : X.K = K := by rfl) : PI X tg l (iList K tl) := h ▸ pi_list hl
theorem pi_tupK (hl : PE X l tl) (h : X.K = K := by rfl) : PI X tg l (iTup K tl) := h ▸ pi_tup hl
theorem pa_starK (he : PE X e te) (hr : PA X es t) (h : X.K = K := by rfl) (hs : starEach (.Starred e p :: es) X.env = (true, eval e X.env) :: starEach es X.env := by rfl) : PA X (.Starred e p :: es) (tStar K te t) := h ▸ pa_star he hr hs
theorem pe_fldK (he : PE X e te) (hb : attributeBase e f X.env (eval e X.env) = eval e X.env) (h : X.K = K := by rfl) : PE X (.Attribute e f pos) (tFld K te f) := h ▸ pe_fld he hb
theorem pg_tupK {es : List Expr} {k : Nat} {t : TGs} {n : Nat} (hc : X.calm = true) (hg : PGs X es t) (h : X.K = K := by rfl) (hn : (assignEach es X.env).length = n := by rfl) (hst : (assignEach es X.env).findIdx? (·.1) = none := by rfl) : PG X (.Tuple es k pos) (gTup K n t) := h ▸ pg_tup hc hg hn hst
end
theorem atI_at {α : Type} {xs : List α} {j : Nat} {v : α} {i : Int} (e : i = (j : Int)) (h : xs[j]? = some v) : atI xs i = some v := by
  rw [e]
  exact atI_nat h
theorem ixN_at {n j : Nat} {i : Int} (e : i = (j : Int)) (h : j < n) : ixN n i = some j := by
  unfold ixN
  rw [if_pos (by omega), if_pos (by omega)]
  congr 1
  omega

theorem nox_K {CX : CXT} {P : Program} {w : World} {K : PySem.W.Frag} {mg : Str → Option Value} {base : Heap} {N : List Str} {qual : Str} {scope : Scope} {f : Addr} {cd : Value} {A : Around} {outer : List Env} {s : Shared} {H : Hp} {E : XK} : (cxOf CX P w K mg base N qual scope f cd A outer s H E).nox.K = K := rfl
theorem cx_K {CX : CXT} {P : Program} {w : World} {K : PySem.W.Frag} {mg : Str → Option Value} {base : Heap} {N : List Str} {qual : Str} {scope : Scope} {f : Addr} {cd : Value} {A : Around} {outer : List Env} {s : Shared} {H : Hp} {E : XK} : (cxOf CX P w K mg base N qual scope f cd A outer s H E).K = K := rfl
/-! ### fields stored; a new object -/
def xSF (K : PySem.W.Frag) (f : Str) (y : V) (N : Hp → Prop) : VK := fun x H2 => ∃ a C dx fs, x = .ref a ∧ H2 a = some (.ins C dx fs) ∧ Cls K C ∧ NoAttr K C f ∧ fs.length < 1000 ∧ N (upd H2 a (.ins C dx (putF f y fs)))
def xMk (C : Addr) (sp : Sp) (E : XK) (Q : VK) : List V → Hp → Prop := fun vs H1 => ∀ x dx, H1 x = Option.none → H1 dx = Option.none → dx ≠ x → sp (V.ref x :: vs) (upd (upd H1 dx (.own x)) x (.ins C dx [])) (fun v H2 => v = .non ∧ Q (.ref x) H2) E
section
variable {K : PySem.W.Frag} {σ : L2.St} {H : Hp} {D : Ends} {Q : VK} {x y : V} {ta tv : TE} {tl : TA} {f : Str}
theorem g_setF (k : tv σ H fun y H1 => ta σ H1 (xSF K f y (D.nx σ))) : sFld K ta tv f D σ H := k
theorem g_xSF {a C dx : Addr} {fs : List (Str × V)} {N : Hp → Prop} (h : H a = some (.ins C dx fs)) (c : Cls K C) (n : NoAttr K C f) (l : fs.length < 1000) (k : ∀ H3, Kp [a] H H3 → H3 a = some (.ins C dx (putF f y fs)) → N H3) : xSF K f y N (.ref a) H :=
  ⟨a, C, dx, fs, rfl, h, c, n, l, k _ (Kp.writeI h) upd_same⟩
theorem g_make {C : Addr} {sp : Sp} {E : XK} (k : tl σ H (xMk C sp E Q)) : tMake C sp [] E tl σ H Q := by
  have e : (fun (vs : List V) (H1 : Hp) => ∀ x dx, H1 x = Option.none → H1 dx = Option.none → dx ≠ x → sp (V.ref x :: vs ++ []) (upd (upd H1 dx (.own x)) x (.ins C dx [])) (fun v H2 => v = .non ∧ Q (.ref x) H2) E) = xMk C sp E Q := by
    funext vs H1
    have e0 : ∀ x : Addr, V.ref x :: vs ++ [] = V.ref x :: vs := fun x => List.append_nil _
    simp only [e0]
    rfl
  show tl σ H (fun vs H1 => ∀ x dx, H1 x = Option.none → H1 dx = Option.none → dx ≠ x → sp (V.ref x :: vs ++ []) (upd (upd H1 dx (.own x)) x (.ins C dx [])) (fun v H2 => v = .non ∧ Q (.ref x) H2) E)
  rw [e]
  exact k
theorem g_xMk {C : Addr} {sp : Sp} {E : XK} {vs : List V} (k : ∀ x dx H2, H x = Option.none → Kp [] H H2 → H2 x = some (.ins C dx []) → sp (V.ref x :: vs) H2 (fun v H3 => v = .non ∧ Q (.ref x) H3) E) : xMk C sp E Q vs H := fun x dx nx nd ne => by
  refine k x dx _ nx ?_ upd_same
  have a : Kp [] H (upd H dx (.own x)) := Kp.new nd
  exact a.trans (Kp.new (by rw [upd_ne (Ne.symm ne)]; exact nx))
end
/-! ### names of the top -/
structure Nm (mg : Str → Option Value) : Prop where
  len : mg "len" = none
  range : mg "range" = none
  max : mg "max" = none
  min : mg "min" = none
  int : mg "int" = none
  bool : mg "bool" = none
  str : mg "str" = none
  list : mg "list" = none
  tuple : mg "tuple" = none
  dict : mg "dict" = none
  set : mg "set" = none
  abs : mg "abs" = none
  sum : mg "sum" = none
  all : mg "all" = none
  any : mg "any" = none
  isinstance : mg "isinstance" = none
  zip : mg "zip" = none
  enumerate : mg "enumerate" = none
  sorted : mg "sorted" = none
def Gc (mg : Str → Option Value) (x : Str) (v : V) : Prop := ∃ u, mg x = some u ∧ RelV v u

/-! ### a def that may be called by its name; a method; a class -/
structure Cal (CX : CXT) (P : Program) (w : World) (K : PySem.W.Frag) (mg : Str → Option Value) (base : Heap) (k : Nat) (x : Str) (sp : Sp) : Prop where
  ex : ∃ (f : Addr) (fd : FuncData) (ps : List Str), FnOk P w K mg base CX k f fd ps sp ∧ mg x = some (.ref f) ∧ PySem.W.keepIn K (.ref f) = true ∧ Binds K fd ps []
theorem Cal.mono {CX : CXT} {P : Program} {w : World} {K : PySem.W.Frag} {mg : Str → Option Value} {base : Heap} {j k : Nat} {x : Str} {sp : Sp} (c : Cal CX P w K mg base j x sp) (h : j ≤ k) : Cal CX P w K mg base k x sp := by
  obtain ⟨f, fd, ps, F, r⟩ := c.ex
  exact ⟨f, fd, ps, F.mono h, r⟩
theorem Cal.imp {CX : CXT} {P : Program} {w : World} {K : PySem.W.Frag} {mg : Str → Option Value} {base : Heap} {k : Nat} {x : Str} {sp sp' : Sp} (c : Cal CX P w K mg base k x sp) (h : ∀ vs H Q E, sp' vs H Q E → sp vs H Q E) : Cal CX P w K mg base k x sp' := by
  obtain ⟨f, fd, ps, F, r⟩ := c.ex
  exact ⟨f, fd, ps, F.imp h, r⟩
structure Mak (CX : CXT) (P : Program) (w : World) (K : PySem.W.Frag) (mg : Str → Option Value) (base : Heap) (k : Nat) (x : Str) (C : Addr) (sp : Sp) : Prop where
  ex : ∃ (f : Addr) (fd : FuncData) (ps : List Str), Mk K C f ∧ FnOk P w K mg base CX k f fd ps sp ∧ mg x = some (.ref C) ∧ Binds K fd ps []
section
variable {X : Cx} {CX : CXT} {k j : Nat} {x : Str} {sp : Sp} {E : XK} {p pos apos : Pos} {e o : Expr} {es : List Expr} {ta : TE} {t : TA}
theorem pe_c (c : Cal CX0 X.prog X.w X.K X.mg X.base k x sp) (hr : Room j X.A) (hk : k ≤ j) (hg : Gl X x) (ha : PA X (e :: es) t)
    (hdb : (x == ("__debug__" : Str)) = false := by decide) (he : starEach (e :: es) X.env = (false, eval e X.env) :: starEach es X.env := by rfl) (hpl : (backTo pos (starEach es X.env)).any (·.1) = false := by rfl) :
    PE X (.Call (.Name x p) (e :: es) [] pos) (tCall sp [] E0 t) := by
  obtain ⟨f, fd, ps, F, hm, kp, b⟩ := c.ex
  exact pe_call F (hr.mono hk) hg hm kp b .nil pass0 ha hdb he hpl
theorem pe_mk {C : Addr} (c : Mak CX0 X.prog X.w X.K X.mg X.base k x C sp) (hr : Room j X.A) (hk : k + 1 ≤ j) (hg : Gl X x) (ha : PA X (e :: es) t)
    (hdb : (x == ("__debug__" : Str)) = false := by decide) (he : starEach (e :: es) X.env = (false, eval e X.env) :: starEach es X.env := by rfl) (hpl : (backTo pos (starEach es X.env)).any (·.1) = false := by rfl) :
    PE X (.Call (.Name x p) (e :: es) [] pos) (tMake C sp [] E0 t) := by
  obtain ⟨f, fd, ps, M, F, hm, b⟩ := c.ex
  exact pe_make M F (hr.mono hk) hg hm b .nil pass0 ha hdb he hpl
theorem pe_g {v : V} (hg : Gl X x) (h : Gc X.mg x v) (hd : (x == ("__debug__" : Str)) = false := by decide) : PE X (.Name x pos) (tC v) := by
  obtain ⟨u, hm, r⟩ := h
  exact pe_glob hg hm r hd
theorem pe_c0 (c : Cal CX0 X.prog X.w X.K X.mg X.base k x sp) (hr : Room j X.A) (hk : k ≤ j) (hg : Gl X x)
    (hdb : (x == ("__debug__" : Str)) = false := by decide) :
    PE X (.Call (.Name x p) [] [] pos) (tCall sp [] E0 tNil) := by
  obtain ⟨f, fd, ps, F, hm, kp, b⟩ := c.ex
  exact pe_call0 F (hr.mono hk) hg hm kp b .nil pass0 hdb
end
end WZ

/-! for i, x in enumerate(t), t a tuple -/
namespace PySem
open Sem (wp)
open AutoSeq1 (wpAny_loadPart')
theorem meets_enumerate_newT1 {v : Value} {o : Obj} {H : Heap → Prop} (B : Begins v o H) :
    Meets (Builtin.«enumerate.__new__» ⟨[.type "enumerate", v], []⟩) (fun _ R s => H s.heap ∧
      R (.ok (.ret (.ref (s.heap.push o).objs.size))) { s with heap := (s.heap.push o).push { cls := .type "enumerate", data := .fields #[.none, .bool false, .ref s.heap.objs.size, rawInt 0, .none, .none] } }) :=
  .of_wp fun prog w A R s h => by
    obtain ⟨hp, g, d, tk, os⟩ := s; obtain ⟨h1, h⟩ := h
    have hsub := sub_enumerate
    have q1 : ∀ {A' : Around} {E : Value → Shared → Prop} {Q : Value → Shared → Prop}, Q (.ref hp.objs.size) ⟨hp.push o, g, d, tk, os⟩ → wpAny (model prog w) A' (pyIter v) Q E ⟨hp, g, d, tk, os⟩ :=
      fun q => B.iter prog w _ _ ⟨hp, g, d, tk, os⟩ _ h1 q
    wp_walk using q1
    refine wpAny_stack_any fun st => wpAny_pure ?_
    split
    · rename_i c _ _ _ _ _
      cases (c == Value.type "enumerate")
      · wp_walk using q1
        exact ⟨_, rfl, h⟩
      · wp_walk using q1
        exact ⟨_, rfl, h⟩
    · wp_walk using q1
      exact ⟨_, rfl, h⟩

theorem call_enumerate_B {prog : Program} {w : World} {A : Around} {E : Value → Shared → Prop} {s : Shared} {v : Value} {o : Obj} {H : Heap → Prop} {Q : Value → Shared → Prop} (B : Begins v o H) (h1 : H s.heap)
    (h : ∀ h', IsEnum h' (s.heap.objs.size + 1) s.heap.objs.size 0 .none → h'.get? s.heap.objs.size = some o → h'.objs.size = s.heap.objs.size + 2 →
      (∀ b o, s.heap.get? b = some o → h'.get? b = some o) → Q (.ref (s.heap.objs.size + 1)) { s with heap := h' }) :
    wpAny (model prog w) A (call (.type "enumerate") [v]) Q E s := by
  refine callType_new F.called_enumerate (by decide) (F.typeCall_enumerate_1 _) (F.newCall_enumerate_1 _) (fun obj => F.args_object_init_2 obj _) F.entry_enumerate_new (meets_enumerate_newT1 B) ⟨h1, ?_⟩
  have hz : (s.heap.push o).objs.size = s.heap.objs.size + 1 := Heap.size_push ..
  show _ ∧ _
  rw [hz]
  have he : IsEnum ((s.heap.push o).push { cls := .type "enumerate", data := .fields #[.none, .bool false, .ref s.heap.objs.size, rawInt 0, .none, .none] }) (s.heap.objs.size + 1) s.heap.objs.size 0 .none := by
    have := Heap.get?_push_size (s.heap.push o) (o := { cls := .type "enumerate", data := .fields #[.none, .bool false, .ref s.heap.objs.size, rawInt 0, .none, .none] }) rfl
    rw [hz] at this; exact this
  refine ⟨⟨_, he, rfl⟩, h _ he (Heap.get?_push_of_some _ (Heap.get?_push_size _ B.free)) (by rw [Heap.size_push, hz]) fun b o x => Heap.get?_push_of_some _ (Heap.get?_push_of_some _ x)⟩
end PySem
namespace WZ
open PySem PySem.Spec PyProof.Rows L2
/-- the tuple at a as it stands at each turn, each item in a new pair -/
def Iet (K : PySem.W.Frag) (a : Addr) : It :=
  ⟨fun i H => ∃ (xs : List V) (x : V), SqT K H a xs ∧ xs[i]? = some x, fun i H v H' => ∃ T x, v = .ref T ∧ H T = none ∧ H' = upd H T (.tup [.int (i : Nat), x]) ∧ ∀ xs, SqT K H a xs → xs[i]? = some x, fun i H => ∃ xs : List V, SqT K H a xs ∧ xs.length = i⟩
theorem turn_enumT {P : Program} {w : World} {K : PySem.W.Frag} {elts : List Expr} {kk : Nat} {tpos : Pos} (a e it : Addr) :
    Turn P w K (.Tuple elts kk tpos) (Iet K a) [e, it] e (fun i h => (∃ old, IsEnum h e it ((i : Nat) : Int) old) ∧ h.IsTupleIter it a i ∧ e ≠ it) where
  mem := by simp
  obj := fun i h st b hb => by
    obtain ⟨⟨old, he⟩, ⟨o, ho, hc, hd⟩, _⟩ := st
    have e' : b = e ∨ b = it := by simpa using hb
    rcases e' with z | z
    · rw [z]; exact ⟨_, he, fun v q => nomatch q⟩
    · rw [z]; exact ⟨o, ho, fun v q => by rw [hd] at q; cases q⟩
  keep := fun i h h' st k => let ⟨⟨old, he⟩, hi, hne⟩ := st; ⟨⟨old, k e (by simp) _ he⟩, hi.at fun o q => k it (by simp) o q, hne⟩
  item := by
    intro X hP hw hK hc i pins s σ H E I hf st hg
    subst hP hw hK
    obtain ⟨⟨old, he⟩, hit, hne⟩ := st
    obtain ⟨xs, x, hq, hx⟩ := hg
    obtain ⟨its, rv, p, hz⟩ := I.tuple hq
    obtain ⟨u, hu, ru⟩ := rv.get hx
    have hel : e < s.heap.objs.size := Heap.lt_size he
    have hil : it < s.heap.objs.size := by obtain ⟨_, q, _⟩ := hit; exact Heap.lt_size q
    have pT : s.heap.IsTuple a its.toArray := p
    have hai : a ≠ it := fun z => by
      subst z
      obtain ⟨o, ho, hc', _⟩ := hit
      obtain ⟨o2, ho2, hc2, _⟩ := pT
      rw [ho] at ho2
      cases ho2
      rw [hc'] at hc2
      exact absurd hc2 (by decide)
    have hae : e ≠ a := fun z => by
      subst z
      obtain ⟨o2, ho2, hc2, _⟩ := pT
      rw [he] at ho2
      cases ho2
      exact absurd (show Value.type "enumerate" = Value.type "tuple" from hc2) (by decide)
    have D := Draws.tuple (prog := X.prog) (w := X.w) (A := X.A.in1) (I.ok.hd hc) it a hai its.toArray
    have hli : i < its.toArray.size := by
      have := (List.getElem?_eq_some_iff.mp hu).1
      simpa using this
    refine wpAny_pyNext_enum_itemC D he ⟨hit, pT⟩ hli hne (by simp [hne, hae]) fun y h' tk hy ho hst' hT hsz hk => ?_
    have eu : y = u := by
      have : its.toArray[i]? = some u := by simpa using hu
      rw [this] at hy
      exact (Option.some.inj hy).symm
    subst eu
    refine ⟨_, rfl, wpAny_letOwnedTupleGo_enum (s := { s with heap := h', toks := tk + 1 }) ho fun h'' he' sb => ?_⟩
    have hT2 : h''.get? s.heap.objs.size = some { cls := .type "tuple", data := .seq #[.int i tk, y] } := (sb.2 _ (Nat.ne_of_gt hel)).trans hT
    have new : ObjOk X.prog X.w (upd H s.heap.objs.size (.tup [.int (i : Nat), x])) h'' s.heap.objs.size (.tup [.int (i : Nat), x]) :=
      ⟨by show 2 ≤ sizeLine; decide, [.int i tk, y], .cons ⟨_, rfl⟩ (.cons ru .nil), ⟨_, hT2, rfl, _, rfl⟩⟩
    have I1 : Inv X pins σ (upd H s.heap.objs.size (.tup [.int (i : Nat), x])) { s with heap := h'', toks := tk + 1 } :=
      I.turnedNew (ch := [e, it]) (fun b ob hb q => (sb.2 b (fun z => hb (by simp [z]))).trans (hk b ob (fun z => hb (by simp [z])) (fun z => hb (by simp [z])) q)) hf (Nat.le_refl _) new
    refine ⟨.ref s.heap.objs.size, _, I1, rfl, ⟨_, x, rfl, I.hok.fresh (Nat.le_refl _), rfl, fun ys hy => by rw [I.tuple_inj hy hq]; exact hx⟩, ⟨⟨y, ?_⟩, hst'.1.at fun o q => (sb.2 it (Ne.symm hne)).trans q, hne⟩, fun b hb => ?_⟩
    · have e1 : ((i + 1 : Nat) : Int) = (i : Int) + 1 := by omega
      rw [e1]; exact he'
    · have hb' : b < s.heap.objs.size := by
        have e' : b = e ∨ b = it := by simpa using hb
        rcases e' with z | z
        · rw [z]; exact hel
        · rw [z]; exact hil
      rw [upd_ne (Nat.ne_of_lt hb')]
      exact (hf b hb).1
  done := by
    intro X hP hw hK hc i pins s σ H E I hf st hg
    subst hP hw hK
    obtain ⟨⟨old, he⟩, hit, hne⟩ := st
    obtain ⟨xs, hq, hx⟩ := hg
    obtain ⟨its, rv, p, hz⟩ := I.tuple hq
    obtain ⟨f0, f1, f2, f3, f4, f5⟩ := hf it (by simp)
    have hl := rv.length
    have pT : s.heap.IsTuple a its.toArray := p
    have hai : a ≠ it := fun z => by
      subst z
      obtain ⟨o, ho, hc', _⟩ := hit
      obtain ⟨o2, ho2, hc2, _⟩ := pT
      rw [ho] at ho2
      cases ho2
      rw [hc'] at hc2
      exact absurd hc2 (by decide)
    subst hx
    have D := Draws.tuple (prog := X.prog) (w := X.w) (A := X.A.in1) (I.ok.hd hc) it a hai its.toArray
    have hsz : its.toArray.size = xs.length := by simp [hl]
    exact wpAny_pyNext_enum_endD D he ⟨by rw [hsz]; exact hit, pT⟩ fun h' eb => ⟨rfl, I.turned (t' := s.toks) (fun b o hb q => eb b o hb q) f0 f1 f3 f4 f5⟩
  self := fun A i s Q E st h => let ⟨⟨_, he⟩, _⟩ := st; wpAny_pyIter_enum he h
def iEnumT (K : PySem.W.Frag) (ta : TA) : TI := fun σ H R => ta σ H fun vs H1 => ∃ a xs, vs = [.ref a] ∧ SqT K H1 a xs ∧ R (Iet K a) H1
theorem pi_enumT {X : Cx} {e : Expr} {ta : TA} {p pos tpos : Pos} {elts : List Expr} {kk : Nat} (hg : Gl X "enumerate") (hm : X.mg "enumerate" = none) (ha : PA X [e] ta) (hs : starEach [e] X.env = [(false, eval e X.env)] := by rfl) :
    PI X (.Tuple elts kk tpos) (.Call (.Name "enumerate" p) [e] [] pos) (iEnumT X.K ta) := by
  refine ⟨fun pins s σ H R I h => ?_⟩
  refine Call_ (ld_blt I hg hm boot_enumerate (PyProof.Rows.callWith_type1 (thn (ha.run pos pins s σ H _ I h) fun us s1 ⟨vs, H1, I1, r1, q1⟩ => ?_) hs rfl))
  obtain ⟨a, xs, ex, hq, q⟩ := q1
  subst ex
  cases r1 with
  | cons r rr =>
    cases rr
    cases r
    obtain ⟨its, rv, p', hz⟩ := I1.tuple hq
    refine call_enumerate_B (begins_tuple a its.toArray) p' fun h' he hit hsz hk => wpAny_pyIter_enum he ?_
    have I2 : Inv X pins σ H1 { s1 with heap := h' } := I1.kept (t' := s1.toks) hk
    refine ⟨s1.heap.objs.size + 1, [s1.heap.objs.size + 1, s1.heap.objs.size], _, _, H1, rfl, I2, turn_enumT a (s1.heap.objs.size + 1) s1.heap.objs.size, ⟨⟨.none, he⟩, ⟨_, hit, rfl, rfl⟩, Nat.succ_ne_self _⟩, fun b hb => ?_, q⟩
    have e' : b = s1.heap.objs.size + 1 ∨ b = s1.heap.objs.size := by simpa using hb
    have hle : s1.heap.objs.size ≤ b := by
      rcases e' with z | z
      · rw [z]; exact Nat.le_add_right _ _
      · rw [z]; exact Nat.le_refl _
    exact I1.fpOk hle (I1.hok.fresh hle)
def xEnumT (K : PySem.W.Frag) (R : It → Hp → Prop) : List V → Hp → Prop := fun vs H1 => ∃ a xs, vs = [.ref a] ∧ SqT K H1 a xs ∧ R (Iet K a) H1
section
variable {K : PySem.W.Frag} {σ : L2.St} {H : Hp} {D : Ends} {ti : TA} {tw : TS} {g : TG} {R : It → Hp → Prop}
theorem g_iEnumT (k : ti σ H (xEnumT K R)) : iEnumT K ti σ H R := k
theorem g_xEnumT {a : Addr} {xs : List V} (h : SqT K H a xs) (k : R (Iet K a) H) : xEnumT K R [.ref a] H := ⟨a, xs, rfl, h, k⟩
theorem g_loopE {a : Addr} {xs : List V} (I : Nat → L2.St → Hp → Prop) (h0 : I 0 σ H) (hl : ∀ i σ' H', i ≤ xs.length → I i σ' H' → SqT K H' a xs)
    (hs : ∀ i x σ' H' T H'', xs[i]? = some x → I i σ' H' → H' T = none → Kp [] H' H'' → H'' T = some (.tup [.int (i : Nat), x]) → g (.ref T) σ' H'' fun σ2 H2 => tw { D with nx := I (i + 1), ct := I (i + 1), bk := D.nx } σ2 H2) (hd : ∀ σ' H', I xs.length σ' H' → D.nx σ' H') : xFor g tw D σ (Iet K a) H := by
  refine ⟨fun i m σ H => m = xs.length - i ∧ i ≤ xs.length ∧ I i σ H, ⟨xs.length, by simp, Nat.zero_le _, h0⟩, ?_⟩
  rintro i m σ H ⟨rfl, hi, p⟩
  have q := hl i σ H hi p
  by_cases hlt : i < xs.length
  · refine .inr ⟨⟨xs, xs[i], q, by simp [hlt]⟩, I (i + 1), fun σ' H' p' => ⟨xs.length - (i + 1), by omega, rfl, hlt, p'⟩, fun x H' y => ?_⟩
    obtain ⟨T, z, rfl, nT, rfl, y⟩ := y
    have e1 := y xs q
    exact hs i z σ H T _ e1 p nT (Kp.new nT) upd_same
  · have e : i = xs.length := by omega
    subst e
    exact .inl ⟨⟨xs, q, rfl⟩, hd σ H p⟩
end
end WZ

/-! the data of a counter, and what the helpers promise -/
namespace WZ
open PySem PySem.Spec PyProof.Rows L2 StX
/-! ### steps -/
inductive Wd where
  | on | back | no
  deriving DecidableEq
def Wd.s : Wd → Str
  | .on => "on"
  | .back => "back"
  | .no => "none"
def Wd.c : Wd → Int
  | .on => 1
  | .back => -1
  | .no => 0
inductive Pl where
  | turn (w : Nat) (b : Int) (k : Wd)
  | set (w : Nat) (p : Int)
  deriving DecidableEq
inductive Stp where
  | pl (p : Pl)
  | alike (a b : Nat) (f g : List Pl)
  deriving DecidableEq
def Pl.dat : Pl → PyData
  | .turn w b k => .tuple [.str "turn", .int w, .int b, .str k.s]
  | .set w p => .tuple [.str "set", .int w, .int p]
def Stp.dat : Stp → PyData
  | .pl p => p.dat
  | .alike a b f g => .tuple [.str "alike", .int a, .int b, .tuple (f.map Pl.dat), .tuple (g.map Pl.dat)]
def dSteps (l : List Stp) : PyData := .tuple (l.map Stp.dat)
def dPls (l : List Pl) : PyData := .tuple (l.map Pl.dat)
def Pl.ok (n : Nat) : Pl → Prop
  | .turn w b _ => w < n ∧ (b = -2 ∨ b = -1 ∨ b = 1 ∨ b = 2)
  | .set w p => w < n ∧ -2 ≤ p ∧ p ≤ 1
def Stp.ok (n : Nat) : Stp → Prop
  | .pl p => p.ok n
  | .alike a b f g => a < b ∧ b < n ∧ (∀ p ∈ f, p.ok n) ∧ ∀ p ∈ g, p.ok n
def Stp.cnt : Stp → Nat
  | .pl _ => 1
  | .alike _ _ f g => 1 + f.length + g.length
def cnts (l : List Stp) : Nat := (l.map Stp.cnt).sum
def StepsOk (n : Nat) (l : List Stp) : Prop := ∀ s ∈ l, s.ok n
theorem cnt_pos (s : Stp) : 1 ≤ s.cnt := by cases s <;> simp [Stp.cnt] <;> omega
theorem cnts_app (a b : List Stp) : cnts (a ++ b) = cnts a + cnts b := by simp [cnts]
theorem cnts_len : ∀ l : List Stp, l.length ≤ cnts l
  | [] => Nat.le_refl _
  | s :: r => by
    have h1 := cnts_len r
    have h2 := cnt_pos s
    show r.length + 1 ≤ s.cnt + cnts r
    omega
section
variable {K : PySem.W.Frag} {H : Hp} {v : V}
theorem td_turn {w : Nat} {b : Int} {k : Wd} (h : Td K H v (Pl.dat (.turn w b k))) : ∃ a, v = .ref a ∧ SqT K H a [.str "turn", .int w, .int b, .str k.s] := by
  obtain ⟨a, xs, rfl, q, t⟩ := h.inv
  cases t with
  | cons h1 t => cases t with
    | cons h2 t => cases t with
      | cons h3 t => cases t with
        | cons h4 t =>
          cases t
          rw [h1.strInv, h2.intInv, h3.intInv, h4.strInv] at q
          exact ⟨a, rfl, q⟩
theorem td_set {w : Nat} {p : Int} (h : Td K H v (Pl.dat (.set w p))) : ∃ a, v = .ref a ∧ SqT K H a [.str "set", .int w, .int p] := by
  obtain ⟨a, xs, rfl, q, t⟩ := h.inv
  cases t with
  | cons h1 t => cases t with
    | cons h2 t => cases t with
      | cons h3 t =>
        cases t
        rw [h1.strInv, h2.intInv, h3.intInv] at q
        exact ⟨a, rfl, q⟩
theorem td_alike {a b : Nat} {f g : List Pl} (h : Td K H v (Stp.dat (.alike a b f g))) : ∃ p pf pg xs ys, v = .ref p ∧ SqT K H p [.str "alike", .int a, .int b, .ref pf, .ref pg] ∧
    SqT K H pf xs ∧ TdA K H xs (f.map Pl.dat) ∧ SqT K H pg ys ∧ TdA K H ys (g.map Pl.dat) := by
  obtain ⟨p, xs, rfl, q, t⟩ := h.inv
  cases t with
  | cons h1 t => cases t with
    | cons h2 t => cases t with
      | cons h3 t => cases t with
        | cons h4 t => cases t with
          | cons h5 t =>
            cases t
            obtain ⟨pf, us, rfl, q4, t4⟩ := h4.inv
            obtain ⟨pg, ws, rfl, q5, t5⟩ := h5.inv
            rw [h1.strInv, h2.intInv, h3.intInv] at q
            exact ⟨p, pf, pg, us, ws, rfl, q, q4, t4, q5, t5⟩
theorem td_mk_turn {a : Addr} {w : Nat} {b : Int} {k : Wd} (h : SqT K H a [.str "turn", .int w, .int b, .str k.s]) : Td K H (.ref a) (Pl.dat (.turn w b k)) := .tup h (.cons (.str _) (.cons (.int _) (.cons (.int _) (.cons (.str _) .nil))))
theorem td_mk_set {a : Addr} {w : Nat} {p : Int} (h : SqT K H a [.str "set", .int w, .int p]) : Td K H (.ref a) (Pl.dat (.set w p)) := .tup h (.cons (.str _) (.cons (.int _) (.cons (.int _) .nil)))
theorem td_mk_alike {p pf pg : Addr} {a b : Nat} {f g : List Pl} {xs ys : List V} (h : SqT K H p [.str "alike", .int a, .int b, .ref pf, .ref pg]) (hf : SqT K H pf xs) (tf : TdA K H xs (f.map Pl.dat)) (hg : SqT K H pg ys) (tg : TdA K H ys (g.map Pl.dat)) :
    Td K H (.ref p) (Stp.dat (.alike a b f g)) := .tup h (.cons (.str _) (.cons (.int _) (.cons (.int _) (.cons (.tup hf tf) (.cons (.tup hg tg) .nil)))))
theorem td_int {h : Int} : Td K H (.int h) (.int h) := .int h
end

/-! ### the source of draws -/
def Src (H : Hp) (h q : Addr) : Prop := ∃ (st : Int) (ns : List Int) (ix : Int), H h = some (.lst [.int st, .ref q, .int ix]) ∧ H q = some (.lst (vI ns)) ∧ ns.length ≤ 63 ∧ 0 ≤ ix
theorem Kp.src {M : List Addr} {H H' : Hp} {h q : Addr} (k : Kp M H H') (s : Src H h q) (n1 : h ∉ M) (n2 : q ∉ M) : Src H' h q := by
  obtain ⟨st, ns, ix, e1, e2, r⟩ := s
  exact ⟨st, ns, ix, k.at_ e1 n1, k.at_ e2 n2, r⟩
theorem Src.ne {H : Hp} {h q l : Addr} (s : Src H h q) (n : H l = none) : l ≠ h := by
  obtain ⟨st, ns, ix, e1, e2, r⟩ := s
  exact (ne_of_none e1 n).symm
theorem Src.ne2 {H : Hp} {h q l : Addr} (s : Src H h q) (n : H l = none) : l ≠ q := by
  obtain ⟨st, ns, ix, e1, e2, r⟩ := s
  exact (ne_of_none e2 n).symm
/-- a result of a draw: all but the source stands -/
def spMix (K : PySem.W.Frag) : Sp := fun vs H Q _ => ∃ (a : Addr) (ns : List Int) (sd : Int), vs = [.ref a, .int sd] ∧ SqL K H a (vI ns) ∧ ns.length ≤ 63 ∧ ∀ (h q : Addr) (H' : Hp), H h = none → H q = none → Kp [] H H' → Src H' h q → Q (.ref h) H'
def spNext : Sp := fun vs H Q _ => ∃ (h q : Addr) (cap : Int), vs = [.ref h, .int cap] ∧ Src H h q ∧ 0 < cap ∧ cap ≤ 10 ^ 18 ∧ ∀ (r : Int) (H' : Hp), 0 ≤ r → r < cap → Kp [h, q] H H' → Src H' h q → Q (.int r) H'
def spPick : Sp := fun vs H Q _ => ∃ (h q l : Addr) (xs : List V), vs = [.ref h, .ref l] ∧ Src H h q ∧ H l = some (.lst xs) ∧ l ≠ h ∧ l ≠ q ∧ 0 < xs.length ∧ xs.length ≤ 1000 ∧ ∀ (v : V) (H' : Hp), v ∈ xs → Kp [h, q] H H' → Src H' h q → Q v H'
def spPlain (K : PySem.W.Frag) : Sp := fun vs H Q _ => ∃ (h q : Addr) (n : Nat), vs = [.ref h, .int n] ∧ Src H h q ∧ 1 ≤ n ∧ n ≤ 3 ∧ ∀ (p : Pl) (v : V) (H' : Hp), p.ok n → Td K H' v p.dat → Kp [h, q] H H' → Src H' h q → Q v H'
def spStep (K : PySem.W.Frag) : Sp := fun vs H Q _ => ∃ (h q : Addr) (n : Nat), vs = [.ref h, .int n] ∧ Src H h q ∧ 1 ≤ n ∧ n ≤ 3 ∧ ∀ (p : Stp) (v : V) (H' : Hp), p.ok n → p.cnt ≤ 3 → Td K H' v p.dat → Kp [h, q] H H' → Src H' h q → Q v H'
def spMany (K : PySem.W.Frag) : Sp := fun vs H Q _ => ∃ (a : Addr) (xs : List V) (l : List Stp), vs = [.ref a] ∧ SqT K H a xs ∧ TdA K H xs (l.map Stp.dat) ∧ l.length ≤ 1000 ∧ ∀ (H' : Hp), Kp [] H H' → Q (.int (cnts l)) H'
def spSteps (K : PySem.W.Frag) : Sp := fun vs H Q _ => ∃ (h q : Addr) (n m : Nat), vs = [.ref h, .int n, .int m] ∧ Src H h q ∧ 1 ≤ n ∧ n ≤ 3 ∧ m ≤ 5 ∧ ∀ (l : List Stp) (v : V) (H' : Hp), StepsOk n l → cnts l ≤ m → Td K H' v (dSteps l) → Kp [h, q] H H' → Src H' h q → Q v H'
def spWheels (K : PySem.W.Frag) : Sp := fun vs H Q _ => ∃ (h q : Addr), vs = [.ref h] ∧ Src H h q ∧ ∀ (n m : Nat) (a : Addr) (H' : Hp), (n, m) ∈ [(1, 5), (2, 5), (2, 4), (3, 3)] → SqT K H' a [.int n, .int m] → Kp [h, q] H H' → Src H' h q → Q (.ref a) H'
section
variable {K : PySem.W.Frag} {H : Hp} {Q : VK} {E : XK} {h q l a : Addr} {n m : Nat} {xs : List V}
theorem ap_mix {ns : List Int} {sd : Int} (s : SqL K H a (vI ns)) (hl : ns.length ≤ 63) (k : ∀ (h q : Addr) (H' : Hp), H h = none → H q = none → Kp [] H H' → Src H' h q → Q (.ref h) H') : spMix K [.ref a, .int sd] H Q E := ⟨a, ns, sd, rfl, s, hl, k⟩
theorem ap_next {cap : Int} (s : Src H h q) (c0 : 0 < cap) (c1 : cap ≤ 10 ^ 18) (k : ∀ (r : Int) (H' : Hp), 0 ≤ r → r < cap → Kp [h, q] H H' → Src H' h q → Q (.int r) H') : spNext [.ref h, .int cap] H Q E := ⟨h, q, cap, rfl, s, c0, c1, k⟩
theorem ap_pick (s : Src H h q) (e : H l = some (.lst xs)) (n1 : l ≠ h) (n2 : l ≠ q) (c0 : 0 < xs.length) (c1 : xs.length ≤ 1000) (k : ∀ (v : V) (H' : Hp), v ∈ xs → Kp [h, q] H H' → Src H' h q → Q v H') : spPick [.ref h, .ref l] H Q E := ⟨h, q, l, xs, rfl, s, e, n1, n2, c0, c1, k⟩
theorem ap_plain (s : Src H h q) (h1 : 1 ≤ n) (h3 : n ≤ 3) (k : ∀ (p : Pl) (v : V) (H' : Hp), p.ok n → Td K H' v p.dat → Kp [h, q] H H' → Src H' h q → Q v H') : spPlain K [.ref h, .int n] H Q E := ⟨h, q, n, rfl, s, h1, h3, k⟩
theorem ap_step (s : Src H h q) (h1 : 1 ≤ n) (h3 : n ≤ 3) (k : ∀ (p : Stp) (v : V) (H' : Hp), p.ok n → p.cnt ≤ 3 → Td K H' v p.dat → Kp [h, q] H H' → Src H' h q → Q v H') : spStep K [.ref h, .int n] H Q E := ⟨h, q, n, rfl, s, h1, h3, k⟩
theorem ap_manyT {l : List Stp} (s : SqT K H a xs) (t : TdA K H xs (l.map Stp.dat)) (hl : l.length ≤ 1000) (k : ∀ (H' : Hp), Kp [] H H' → Q (.int (cnts l)) H') : spMany K [.ref a] H Q E := ⟨a, xs, l, rfl, s, t, hl, k⟩
theorem ap_steps (s : Src H h q) (h1 : 1 ≤ n) (h3 : n ≤ 3) (h5 : m ≤ 5) (k : ∀ (l : List Stp) (v : V) (H' : Hp), StepsOk n l → cnts l ≤ m → Td K H' v (dSteps l) → Kp [h, q] H H' → Src H' h q → Q v H') : spSteps K [.ref h, .int n, .int m] H Q E := ⟨h, q, n, m, rfl, s, h1, h3, h5, k⟩
theorem ap_wheels (s : Src H h q) (k : ∀ (n m : Nat) (a : Addr) (H' : Hp), (n, m) ∈ [(1, 5), (2, 5), (2, 4), (3, 3)] → SqT K H' a [.int n, .int m] → Kp [h, q] H H' → Src H' h q → Q (.ref a) H') : spWheels K [.ref h] H Q E := ⟨h, q, rfl, s, k⟩
end
end WZ

/-! what the looks at steps promise -/
namespace WZ
open PySem PySem.Spec PyProof.Rows L2 StX
/-! ### types -/
section
variable {K : PySem.W.Frag} {H : Hp} {v : V} {d : PyData} {Q : VK}
def tyD : PyData → String
  | .none => "NoneType"
  | .bool _ => "bool"
  | .int _ => "int"
  | .str _ => "str"
  | .list _ => "list"
  | .tuple _ => "tuple"
  | .dict _ => "dict"
theorem dp_ty (h : Dp K H v d) : TyX K H v (.type (tyD d)) := by
  cases h with
  | non => exact .base .non
  | bl b => exact .base (.bl b)
  | int i => exact .base (.int i)
  | str x => exact .base (.str x)
  | lst h _ =>
    rcases h with (h | ⟨o, h⟩) | ⟨o, its, n, h1, h2, _⟩
    · exact .base (.lst h)
    · exact .base (.frz h)
    · exact .kList h1 h2
  | tup h _ =>
    rcases h with (h | ⟨o, h⟩) | ⟨o, its, n, h1, h2, _⟩
    · exact .base (.tup h)
    · exact .fTuple h
    · exact .kTuple h1 h2
theorem g_isi {t n : String} {b : Bool} (ty : TyX K H v (.type t)) (e : kitB t n = some b) (k : Q (.bl b) H) : rIsi K [v, .ty n] H Q := ⟨v, .ty n, .type t, .type n, b, rfl, .ty n, ty, kit_ty e, k⟩
theorem g_isiD {n : String} (b : Bool) (h : Dp K H v d) (e : kitB (tyD d) n = some b) (k : Q (.bl b) H) : rIsi K [v, .ty n] H Q := g_isi (dp_ty h) e k
end
mutual
theorem Dp.mono {K : PySem.W.Frag} {H H' : Hp} (k : Kp [] H H') : ∀ {d : PyData} {v : V}, Dp K H v d → Dp K H' v d
  | _, _, .non => .non
  | _, _, .bl b => .bl b
  | _, _, .int i => .int i
  | _, _, .str x => .str x
  | _, _, .lst h t => .lst (k.sqL h List.not_mem_nil) (DpAll.mono k t)
  | _, _, .tup h t => .tup (k.sqT h) (DpAll.mono k t)
theorem DpAll.mono {K : PySem.W.Frag} {H H' : Hp} (k : Kp [] H H') : ∀ {ds : List PyData} {vs : List V}, DpAll K H vs ds → DpAll K H' vs ds
  | _, _, .nil => .nil
  | _, _, .cons h t => .cons (Dp.mono k h) (DpAll.mono k t)
end
theorem Kp.dp {K : PySem.W.Frag} {H H' : Hp} {v : V} {d : PyData} (k : Kp [] H H') (h : Dp K H v d) : Dp K H' v d := Dp.mono k h
theorem Kp.dpA {K : PySem.W.Frag} {H H' : Hp} {v : List V} {d : List PyData} (k : Kp [] H H') (h : DpAll K H v d) : DpAll K H' v d := DpAll.mono k h
section
variable {K : PySem.W.Frag} {H : Hp}
theorem dpA_len : ∀ {vs : List V} {ds : List PyData}, DpAll K H vs ds → vs.length = ds.length
  | _, _, .nil => rfl
  | _, _, .cons _ t => by simp [dpA_len t]
theorem dpA_get : ∀ {vs : List V} {ds : List PyData} {i : Nat} {d : PyData}, DpAll K H vs ds → ds[i]? = some d → ∃ v, vs[i]? = some v ∧ Dp K H v d
  | _, _, _, _, .nil, e => by simp at e
  | _, _, 0, _, .cons r _, e => by simp at e; subst e; exact ⟨_, rfl, r⟩
  | _, _, i + 1, d, .cons _ t, e => by
    obtain ⟨v, h1, h2⟩ := dpA_get (i := i) (d := d) t (by simpa using e)
    exact ⟨v, by simpa using h1, h2⟩
end

/-! ### the looks -/
def intIn (lo hi : Int) : PyData → Bool
  | .int i => decide (lo ≤ i) && decide (i ≤ hi)
  | _ => false
def wordIn : PyData → Bool
  | .str s => decide (s = "on") || decide (s = "back") || decide (s = "none")
  | _ => false
def turnIn : PyData → Bool
  | .int i => decide (i = -2) || decide (i = -1) || decide (i = 1) || decide (i = 2)
  | _ => false
def plainD (n : Nat) : List PyData → Bool
  | .str s :: a :: b :: r => intIn 0 ((n : Int) - 1) a && (if s = "set" then r.isEmpty && intIn (-2) 1 b else if s = "turn" then (match r with | [c] => turnIn b && wordIn c | _ => false) else false)
  | _ => false
def isPlD (n : Nat) : PyData → Bool
  | .tuple (.str s :: r) => plainD n (.str s :: r)
  | _ => false
def plainsD (n : Nat) : PyData → Bool
  | .tuple ds => ds.all (isPlD n)
  | _ => false
def lessD : PyData → PyData → Bool
  | .int i, .int j => decide (i < j)
  | _, _ => false
def stepD (n : Nat) : PyData → Bool
  | .tuple (.str s :: r) => if s = "alike" then (match r with | [a, b, f, g] => intIn 0 ((n : Int) - 1) a && intIn 0 ((n : Int) - 1) b && lessD a b && plainsD n f && plainsD n g | _ => false) else plainD n (.str s :: r)
  | _ => false
theorem plainD_ok {n : Nat} {p : Pl} (h : p.ok n) : isPlD n p.dat = true := by
  cases p with
  | turn w b k =>
    obtain ⟨h1, h2⟩ := h
    have e1 : ¬ (("turn" : Str) = "set") := by decide +kernel
    have e2 : intIn 0 ((n : Int) - 1) (.int w) = true := by simp [intIn]; omega
    have e3 : turnIn (.int b) = true := by simp [turnIn]; omega
    have e4 : wordIn (.str k.s) = true := by cases k <;> decide +kernel
    simp [Pl.dat, isPlD, plainD, e1, e2, e3, e4]
  | set w p =>
    obtain ⟨h1, h2, h3⟩ := h
    have e2 : intIn 0 ((n : Int) - 1) (.int w) = true := by simp [intIn]; omega
    have e3 : intIn (-2) 1 (.int p) = true := by simp [intIn]; omega
    simp [Pl.dat, isPlD, plainD, e2, e3]
theorem stepD_ok {n : Nat} {s : Stp} (h : s.ok n) : stepD n s.dat = true := by
  cases s with
  | pl p =>
    have q := plainD_ok (p := p) h
    have e1 : ¬ (("turn" : Str) = "alike") := by decide +kernel
    have e2 : ¬ (("set" : Str) = "alike") := by decide +kernel
    cases p with
    | turn w b k => simpa [Stp.dat, Pl.dat, stepD, e1, isPlD] using q
    | set w p => simpa [Stp.dat, Pl.dat, stepD, e2, isPlD] using q
  | alike a b f g =>
    obtain ⟨h1, h2, h3, h4⟩ := h
    have e2 : intIn 0 ((n : Int) - 1) (.int a) = true := by simp [intIn]; omega
    have e3 : intIn 0 ((n : Int) - 1) (.int b) = true := by simp [intIn]; omega
    have e4 : lessD (.int a) (.int b) = true := by simp [lessD]; omega
    have e5 : plainsD n (.tuple (f.map Pl.dat)) = true := by
      simp only [plainsD, List.all_eq_true, List.mem_map]
      rintro _ ⟨p, hp, rfl⟩
      exact plainD_ok (h3 p hp)
    have e6 : plainsD n (.tuple (g.map Pl.dat)) = true := by
      simp only [plainsD, List.all_eq_true, List.mem_map]
      rintro _ ⟨p, hp, rfl⟩
      exact plainD_ok (h4 p hp)
    simp [Stp.dat, stepD, e2, e3, e4, e5, e6]
def Lay (k : Nat) (d : PyData) : Prop := d.canLay0 = true ∧ d.depth ≤ k
theorem Lay.sh {k : Nat} {d : PyData} (h : Lay k d) (hk : k ≤ 64) : SeqAt.shaped d = true := by
  unfold SeqAt.shaped
  rw [h.1, Bool.true_and]
  exact decide_eq_true (Nat.le_trans h.2 hk)
theorem Lay.all {k : Nat} : ∀ {ds : List PyData}, (∀ d ∈ ds, Lay k d) → PyData.canLayAll0 ds = true ∧ PyData.depthAll ds ≤ k
  | [], _ => ⟨rfl, by simp [PyData.depthAll]⟩
  | d :: r, h => by
    obtain ⟨a1, a2⟩ := h d List.mem_cons_self
    obtain ⟨b1, b2⟩ := Lay.all (ds := r) fun e he => h e (List.mem_cons_of_mem _ he)
    refine ⟨by simp [PyData.canLayAll0, a1, b1], ?_⟩
    simp only [PyData.depthAll]
    omega
theorem Lay.tup {k : Nat} {ds : List PyData} (h : ∀ d ∈ ds, Lay k d) : Lay (k + 1) (.tuple ds) := by
  obtain ⟨a, b⟩ := Lay.all h
  exact ⟨by simp [PyData.canLay0, a], by simp [PyData.depth]; omega⟩
theorem Lay.lst {k : Nat} {ds : List PyData} (h : ∀ d ∈ ds, Lay k d) : Lay (k + 1) (.list ds) := by
  obtain ⟨a, b⟩ := Lay.all h
  exact ⟨by simp [PyData.canLay0, a], by simp [PyData.depth]; omega⟩
theorem Lay.int {k : Nat} (i : Int) : Lay k (.int i) := ⟨rfl, by simp [PyData.depth]⟩
theorem Lay.str {k : Nat} {x : Str} (h : PyData.strOk x = true) : Lay k (.str x) := ⟨by simp [PyData.canLay0, h], by simp [PyData.depth]⟩
theorem Lay.mono {k m : Nat} {d : PyData} (h : Lay k d) (hk : k ≤ m) : Lay m d := ⟨h.1, Nat.le_trans h.2 hk⟩
theorem lay_wd (k : Wd) : PyData.strOk k.s = true := by cases k <;> decide +kernel
theorem lay_pl (p : Pl) : Lay 1 p.dat := by
  cases p with
  | turn w b k =>
    refine Lay.tup (k := 0) fun d hd => ?_
    simp only [List.mem_cons, List.not_mem_nil, or_false] at hd
    rcases hd with rfl | rfl | rfl | rfl
    · exact Lay.str (by decide +kernel)
    · exact Lay.int _
    · exact Lay.int _
    · exact Lay.str (lay_wd k)
  | set w p =>
    refine Lay.tup (k := 0) fun d hd => ?_
    simp only [List.mem_cons, List.not_mem_nil, or_false] at hd
    rcases hd with rfl | rfl | rfl
    · exact Lay.str (by decide +kernel)
    · exact Lay.int _
    · exact Lay.int _
theorem lay_pls (l : List Pl) : Lay 2 (.tuple (l.map Pl.dat)) := Lay.tup fun d hd => by
  obtain ⟨p, _, rfl⟩ := List.mem_map.mp hd
  exact lay_pl p
theorem lay_st (s : Stp) : Lay 3 s.dat := by
  cases s with
  | pl p => exact (lay_pl p).mono (by decide)
  | alike a b f g =>
    refine Lay.tup (k := 2) fun d hd => ?_
    simp only [List.mem_cons, List.not_mem_nil, or_false] at hd
    rcases hd with rfl | rfl | rfl | rfl | rfl
    · exact Lay.str (by decide +kernel)
    · exact Lay.int _
    · exact Lay.int _
    · exact lay_pls f
    · exact lay_pls g
theorem lay_steps (l : List Stp) : Lay 4 (dSteps l) := Lay.tup fun d hd => by
  obtain ⟨p, _, rfl⟩ := List.mem_map.mp hd
  exact lay_st p
theorem lay_ints (l : List Int) : Lay 1 (dInts l) := Lay.tup fun d hd => by
  obtain ⟨p, _, rfl⟩ := List.mem_map.mp hd
  exact Lay.int p
theorem shaped_mem {ds : List PyData} (h : SeqAt.shaped (.tuple ds) = true) : ∀ d ∈ ds, SeqAt.shaped d = true := by
  have h1 := SeqAt.canLay_of_shaped h
  have h2 := SeqAt.depth_of_shaped h
  simp only [PyData.canLay0, PyData.depth] at h1 h2
  have h3 : PyData.depthAll ds ≤ 63 := by omega
  clear h h2
  intro d hd
  induction ds with
  | nil => cases hd
  | cons e r ih =>
    simp only [PyData.canLayAll0, Bool.and_eq_true] at h1
    simp only [PyData.depthAll] at h3
    rcases List.mem_cons.mp hd with z | z
    · subst z
      unfold SeqAt.shaped
      rw [h1.1]
      simp
      omega
    · exact ih h1.2 (by omega) z
def Sz1 (d : PyData) : Prop := ∀ ds, d = .tuple ds → ds.length ≤ 1000
def Sz2 (d : PyData) : Prop := ∀ ds, d = .tuple ds → ds.length ≤ 1000 ∧ ∀ e ∈ ds, Sz1 e
def spIsInt (K : PySem.W.Frag) : Sp := fun vs H Q _ => ∃ (v : V) (d : PyData) (lo hi : Int), vs = [v, .int lo, .int hi] ∧ Dp K H v d ∧ ∀ H', Kp [] H H' → Q (.bl (intIn lo hi d)) H'
def spIsPlain (K : PySem.W.Frag) : Sp := fun vs H Q _ => ∃ (a : Addr) (xs : List V) (s : Str) (ds : List PyData) (n : Nat), vs = [.ref a, .int n] ∧ SqT K H a (.str s :: xs) ∧ DpAll K H xs ds ∧ ∀ H', Kp [] H H' → Q (.bl (plainD n (.str s :: ds))) H'
def spArePlain (K : PySem.W.Frag) : Sp := fun vs H Q _ => ∃ (v : V) (d : PyData) (n : Nat), vs = [v, .int n] ∧ Dp K H v d ∧ SeqAt.shaped d = true ∧ Sz1 d ∧ ∀ H', Kp [] H H' → Q (.bl (plainsD n d)) H'
def spIsStep (K : PySem.W.Frag) : Sp := fun vs H Q _ => ∃ (v : V) (d : PyData) (n : Nat), vs = [v, .int n] ∧ Dp K H v d ∧ SeqAt.shaped d = true ∧ Sz2 d ∧ ∀ H', Kp [] H H' → Q (.bl (stepD n d)) H'
theorem sz_pls {l : List Pl} (h : l.length ≤ 1000) : Sz1 (.tuple (l.map Pl.dat)) := fun ds e => by
  cases e
  rw [List.length_map]
  exact h
theorem sz_pl (p : Pl) : Sz2 p.dat := fun ds e => by
  cases p with
  | turn w b k =>
    cases e
    refine ⟨by show 4 ≤ 1000; decide, fun e he => ?_⟩
    simp only [List.mem_cons, List.not_mem_nil, or_false] at he
    rcases he with rfl | rfl | rfl | rfl <;> exact fun _ z => nomatch z
  | set w p =>
    cases e
    refine ⟨by show 3 ≤ 1000; decide, fun e he => ?_⟩
    simp only [List.mem_cons, List.not_mem_nil, or_false] at he
    rcases he with rfl | rfl | rfl <;> exact fun _ z => nomatch z
theorem sz_st {s : Stp} (h : s.cnt ≤ 1000) : Sz2 s.dat := by
  cases s with
  | pl p => exact sz_pl p
  | alike a b f g =>
    have h' : 1 + f.length + g.length ≤ 1000 := h
    intro ds e
    cases e
    refine ⟨by show 5 ≤ 1000; decide, fun e he => ?_⟩
    simp only [List.mem_cons, List.not_mem_nil, or_false] at he
    rcases he with rfl | rfl | rfl | rfl | rfl
    · exact fun _ z => nomatch z
    · exact fun _ z => nomatch z
    · exact fun _ z => nomatch z
    · exact sz_pls (by omega)
    · exact sz_pls (by omega)
section
variable {K : PySem.W.Frag} {H : Hp} {Q : VK} {E : XK} {v : V} {d : PyData} {n : Nat}
theorem ap_isInt {lo hi : Int} (h : Dp K H v d) (k : ∀ H', Kp [] H H' → Q (.bl (intIn lo hi d)) H') : spIsInt K [v, .int lo, .int hi] H Q E := ⟨v, d, lo, hi, rfl, h, k⟩
theorem ap_isPlain {a : Addr} {xs : List V} {s : Str} {ds : List PyData} (h : SqT K H a (.str s :: xs)) (t : DpAll K H xs ds) (k : ∀ H', Kp [] H H' → Q (.bl (plainD n (.str s :: ds))) H') : spIsPlain K [.ref a, .int n] H Q E := ⟨a, xs, s, ds, n, rfl, h, t, k⟩
theorem ap_arePlain (h : Dp K H v d) (s : SeqAt.shaped d = true) (z : Sz1 d) (k : ∀ H', Kp [] H H' → Q (.bl (plainsD n d)) H') : spArePlain K [v, .int n] H Q E := ⟨v, d, n, rfl, h, s, z, k⟩
theorem ap_isStep (h : Dp K H v d) (s : SeqAt.shaped d = true) (z : Sz2 d) (k : ∀ H', Kp [] H H' → Q (.bl (stepD n d)) H') : spIsStep K [v, .int n] H Q E := ⟨v, d, n, rfl, h, s, z, k⟩
end
theorem kit_no {d : PyData} (h : ¬ tyD d = "tuple") : kitB (tyD d) "tuple" = some false := by
  cases d with
  | tuple _ => exact absurd rfl h
  | none => show kitB "NoneType" "tuple" = _; decide +kernel
  | bool _ => show kitB "bool" "tuple" = _; decide +kernel
  | int _ => show kitB "int" "tuple" = _; decide +kernel
  | str _ => show kitB "str" "tuple" = _; decide +kernel
  | list _ => show kitB "list" "tuple" = _; decide +kernel
  | dict _ => show kitB "dict" "tuple" = _; decide +kernel
theorem not_tup {d : PyData} (h : tyD d = "tuple") (n : ∀ ds, d = .tuple ds → False) : False := by
  cases d with
  | tuple ds => exact n ds rfl
  | none => exact absurd (show "NoneType" = "tuple" from h) (by decide)
  | bool _ => exact absurd (show "bool" = "tuple" from h) (by decide)
  | int _ => exact absurd (show "int" = "tuple" from h) (by decide)
  | str _ => exact absurd (show "str" = "tuple" from h) (by decide)
  | list _ => exact absurd (show "list" = "tuple" from h) (by decide)
  | dict _ => exact absurd (show "dict" = "tuple" from h) (by decide)
def neTup : PyData → Bool
  | .tuple (_ :: _) => true
  | _ => false
theorem dp_item {K : PySem.W.Frag} {H : Hp} {xs : List V} {ds : List PyData} {i : Nat} {x : V} (h : DpAll K H xs ds) (hx : xs[i]? = some x) : ∃ d, ds[i]? = some d ∧ Dp K H x d := by
  have hi : i < ds.length := by
    have h1 := (List.getElem?_eq_some_iff.mp hx).1
    have h2 := dpA_len h
    omega
  obtain ⟨y, hy, hd⟩ := dpA_get (i := i) (d := ds[i]) h (List.getElem?_eq_getElem hi)
  rw [hx] at hy
  cases hy
  exact ⟨_, List.getElem?_eq_getElem hi, hd⟩
theorem take_next {α β : Type} {l : List α} {i : Nat} {e : α} {g : α → β} (h : l[i]? = some e) : (l.take (i + 1)).map g = (l.take i).map g ++ [g e] := by
  rw [List.take_add_one, h, List.map_append]
  rfl
end WZ

/-! wheels turned: the mathematics -/
namespace WZ
open PySem PySem.Spec PyProof.Rows L2 StX
def carry (c : Int) : List Int → List Int → Int → List Int
  | z :: zs, s :: ss, b => if b = 0 then z :: zs else
    (z + b - (if s ≤ z + b then 1 else if z + b < 0 then -1 else 0) * s) :: carry c zs ss ((if s ≤ z + b then 1 else if z + b < 0 then -1 else 0) * c)
  | zs, _, _ => zs
def turnZ (s z : List Int) (w : Nat) (b c : Int) : List Int := z.take w ++ carry c (z.drop w) (s.drop w) b
def plZ (s z : List Int) : Pl → List Int
  | .turn w b k => turnZ s z w b k.c
  | .set w p => z.set w (if 0 ≤ p then p else s.getD w 0 + p)
def plsZ (s z : List Int) (l : List Pl) : List Int := l.foldl (plZ s) z
def stZ (s z : List Int) : Stp → List Int
  | .pl p => plZ s z p
  | .alike a b f g => plsZ s z (if z.getD a 0 = z.getD b 0 then f else g)
def runZ (s z : List Int) (l : List Stp) : List Int := l.foldl (stZ s) z
theorem carry_zero (c : Int) : ∀ (z s : List Int), carry c z s 0 = z
  | [], _ => by cases ‹List Int› <;> rfl
  | z :: zs, [] => rfl
  | z :: zs, s :: ss => by simp [carry]
theorem turnZ_zero (s z : List Int) (w : Nat) (c : Int) : turnZ s z w 0 c = z := by
  rw [turnZ, carry_zero, List.take_append_drop]
theorem turnZ_end {s z : List Int} {w : Nat} {b c : Int} (h : z.length ≤ w) : turnZ s z w b c = z := by
  rw [turnZ, List.take_of_length_le h, List.drop_eq_nil_of_le h]
  simp [carry]
theorem carry_len (c : Int) : ∀ (z s : List Int) (b : Int), (carry c z s b).length = z.length
  | [], _, _ => by simp [carry]
  | z :: zs, [], _ => rfl
  | z :: zs, s :: ss, b => by
    unfold carry
    split
    · rfl
    · simp [carry_len c zs ss]
theorem turnZ_len (s z : List Int) (w : Nat) (b c : Int) : (turnZ s z w b c).length = z.length := by
  simp [turnZ, carry_len]
  omega
theorem plZ_len (s z : List Int) (p : Pl) : (plZ s z p).length = z.length := by
  cases p with
  | turn w b k => exact turnZ_len _ _ _ _ _
  | set w p => simp [plZ]
theorem plsZ_len (s : List Int) : ∀ (l : List Pl) (z : List Int), (plsZ s z l).length = z.length
  | [], _ => rfl
  | p :: r, z => by
    show (plsZ s (plZ s z p) r).length = _
    rw [plsZ_len s r, plZ_len]
theorem stZ_len (s z : List Int) (p : Stp) : (stZ s z p).length = z.length := by
  cases p with
  | pl p => exact plZ_len _ _ _
  | alike a b f g => exact plsZ_len _ _ _
theorem runZ_len (s : List Int) : ∀ (l : List Stp) (z : List Int), (runZ s z l).length = z.length
  | [], _ => rfl
  | p :: r, z => by
    show (runZ s (stZ s z p) r).length = _
    rw [runZ_len s r, stZ_len]
/-- one turn of the loop -/
theorem turnZ_step {s z : List Int} {w : Nat} {b c x y : Int} (hb : b ≠ 0) (hx : z[w]? = some x) (hy : s[w]? = some y) :
    turnZ s z w b c = turnZ s (z.set w (x + b - (if y ≤ x + b then 1 else if x + b < 0 then -1 else 0) * y)) (w + 1) ((if y ≤ x + b then 1 else if x + b < 0 then -1 else 0) * c) c := by
  have hw : w < z.length := (List.getElem?_eq_some_iff.mp hx).1
  have hs : w < s.length := (List.getElem?_eq_some_iff.mp hy).1
  have ex : z[w] = x := (List.getElem?_eq_some_iff.mp hx).2
  have ey : s[w] = y := (List.getElem?_eq_some_iff.mp hy).2
  unfold turnZ
  rw [List.drop_eq_getElem_cons hw, List.drop_eq_getElem_cons hs, ex, ey]
  conv => lhs; unfold carry
  rw [if_neg hb, List.take_add_one, List.getElem?_set_self hw, List.take_set, List.drop_set_of_lt (by omega), List.set_eq_of_length_le (by simp; omega)]
  simp

theorem cutV_take (xs : List V) (k : Nat) : cutV xs none (some (k : Int)) = xs.take k := by
  unfold cutV
  rw [HT.sIx_none, show HT.sIx xs.length xs.length (some (k : Int)) = min k xs.length from HT.sIx_nat _ _ k, List.drop_zero, Nat.sub_zero]
  rw [List.take_eq_take_iff]
  omega
theorem cutV_drop (xs : List V) (k : Nat) : cutV xs (some (k : Int)) none = xs.drop k := by
  unfold cutV
  rw [HT.sIx_none, show HT.sIx xs.length 0 (some (k : Int)) = min k xs.length from HT.sIx_nat _ _ k]
  by_cases h : k ≤ xs.length
  · rw [Nat.min_eq_left h, List.take_of_length_le (by rw [List.length_drop]; exact Nat.le_refl _)]
  · rw [Nat.min_eq_right (by omega), List.drop_length, List.drop_eq_nil_of_le (by omega)]
    simp
def Stp.dep : Stp → Nat
  | .pl _ => 0
  | .alike _ _ _ _ => 1
/-- the written dict of what is taken along -/
def TakenT (K : PySem.W.Frag) (w : World) (a : Addr) : Prop := ∀ k : Wd, KDct K w a k.s (.int k.c)
theorem g_taken {K : PySem.W.Frag} {w : World} {p : Addr} {kd : Wd} {H : Hp} {Q : VK} (T : TakenT K w p) (k : Q (.int kd.c) H) : rIxD K w (.ref p) (.str kd.s) H Q := g_ixD (T kd) k
/-- a tuple at a; where b says so, one of the heap's own -/
def SqB (K : PySem.W.Frag) (b : Bool) (H : Hp) (a : Addr) (xs : List V) : Prop := SqT K H a xs ∧ (b = true → H a = some (.tup xs))
theorem SqB.tr {K : PySem.W.Frag} {H : Hp} {a : Addr} {xs : List V} (h : SqB K true H a xs) : H a = some (.tup xs) := h.2 rfl
theorem SqB.of {K : PySem.W.Frag} {H : Hp} {a : Addr} {xs : List V} (h : SqT K H a xs) : SqB K false H a xs := ⟨h, fun z => nomatch z⟩
theorem SqB.at_ {K : PySem.W.Frag} {b : Bool} {H : Hp} {a : Addr} {xs : List V} (h : H a = some (.tup xs)) : SqB K b H a xs := ⟨SqT.of h, fun _ => h⟩
theorem Kp.sqB {K : PySem.W.Frag} {b : Bool} {M : List Addr} {H H' : Hp} {a : Addr} {xs : List V} (k : Kp M H H') (h : SqB K b H a xs) : SqB K b H' a xs := ⟨k.sqT h.1, fun e => k.tups _ _ (h.2 e)⟩
def spTurned (K : PySem.W.Frag) : Sp := fun vs H Q _ => ∃ (a b : Addr) (z s : List Int) (wh : Nat) (by_ : Int) (kd : Wd), vs = [.ref a, .ref b, .int wh, .int by_, .str kd.s] ∧ SqT K H a (vI z) ∧ SqT K H b (vI s) ∧ z.length = s.length ∧ s.length ≤ 1000 ∧ -2 ≤ by_ ∧ by_ ≤ 2 ∧
  ∀ (p : Addr) (H' : Hp), Kp [] H H' → H' p = some (.tup (vI (turnZ s z wh by_ kd.c))) → Q (.ref p) H'
def spStepped (K : PySem.W.Frag) (n : Nat) : Sp := fun vs H Q _ => ∃ (τ : Bool) (a b : Addr) (z s : List Int) (v : V) (st : Stp), vs = [.ref a, .ref b, v] ∧ SqB K τ H a (vI z) ∧ SqT K H b (vI s) ∧ z.length = s.length ∧ s.length ≤ 1000 ∧ Td K H v st.dat ∧ st.ok s.length ∧ st.dep ≤ n ∧
  ∀ (p : Addr) (H' : Hp), Kp [] H H' → SqB K τ H' p (vI (stZ s z st)) → Q (.ref p) H'
def spRan (K : PySem.W.Frag) (n : Nat) : Sp := fun vs H Q _ => ∃ (τ : Bool) (a b t : Addr) (z s : List Int) (xs : List V) (l : List Stp), vs = [.ref a, .ref b, .ref t] ∧ SqB K τ H a (vI z) ∧ SqT K H b (vI s) ∧ z.length = s.length ∧ s.length ≤ 1000 ∧ SqT K H t xs ∧ TdA K H xs (l.map Stp.dat) ∧ StepsOk s.length l ∧ (∀ st ∈ l, st.dep < n) ∧ 0 < n ∧
  ∀ (p : Addr) (H' : Hp), Kp [] H H' → SqB K τ H' p (vI (runZ s z l)) → Q (.ref p) H'
section
variable {K : PySem.W.Frag} {H : Hp} {Q : VK} {E : XK} {a b t : Addr} {z s : List Int}
theorem ap_turned {wh : Nat} {by_ : Int} {kd : Wd} (hz : SqT K H a (vI z)) (hs : SqT K H b (vI s)) (hl : z.length = s.length) (h1 : s.length ≤ 1000) (h2 : -2 ≤ by_) (h3 : by_ ≤ 2) (k : ∀ (p : Addr) (H' : Hp), Kp [] H H' → H' p = some (.tup (vI (turnZ s z wh by_ kd.c))) → Q (.ref p) H') :
    spTurned K [.ref a, .ref b, .int wh, .int by_, .str kd.s] H Q E := ⟨a, b, z, s, wh, by_, kd, rfl, hz, hs, hl, h1, h2, h3, k⟩
theorem ap_steppedB {n : Nat} {v : V} {st : Stp} {τ : Bool} (hz : SqB K τ H a (vI z)) (hs : SqT K H b (vI s)) (hl : z.length = s.length) (h1 : s.length ≤ 1000) (hv : Td K H v st.dat) (ho : st.ok s.length) (hd : st.dep ≤ n) (k : ∀ (p : Addr) (H' : Hp), Kp [] H H' → SqB K τ H' p (vI (stZ s z st)) → Q (.ref p) H') :
    spStepped K n [.ref a, .ref b, v] H Q E := ⟨τ, a, b, z, s, v, st, rfl, hz, hs, hl, h1, hv, ho, hd, k⟩
theorem ap_ranB {n : Nat} {xs : List V} {l : List Stp} {τ : Bool} (hz : SqB K τ H a (vI z)) (hs : SqT K H b (vI s)) (hl : z.length = s.length) (h1 : s.length ≤ 1000) (ht : SqT K H t xs) (hv : TdA K H xs (l.map Stp.dat)) (ho : StepsOk s.length l) (hd : ∀ st ∈ l, st.dep < n) (hn : 0 < n) (k : ∀ (p : Addr) (H' : Hp), Kp [] H H' → SqB K τ H' p (vI (runZ s z l)) → Q (.ref p) H') :
    spRan K n [.ref a, .ref b, .ref t] H Q E := ⟨τ, a, b, t, z, s, xs, l, rfl, hz, hs, hl, h1, ht, hv, ho, hd, hn, k⟩
theorem ap_stepped {n : Nat} {v : V} {st : Stp} (hz : SqT K H a (vI z)) (hs : SqT K H b (vI s)) (hl : z.length = s.length) (h1 : s.length ≤ 1000) (hv : Td K H v st.dat) (ho : st.ok s.length) (hd : st.dep ≤ n) (k : ∀ (p : Addr) (H' : Hp), Kp [] H H' → SqT K H' p (vI (stZ s z st)) → Q (.ref p) H') :
    spStepped K n [.ref a, .ref b, v] H Q E := ⟨false, a, b, z, s, v, st, rfl, .of hz, hs, hl, h1, hv, ho, hd, fun p H' k' s' => k p H' k' s'.1⟩
theorem ap_ran {n : Nat} {xs : List V} {l : List Stp} (hz : SqT K H a (vI z)) (hs : SqT K H b (vI s)) (hl : z.length = s.length) (h1 : s.length ≤ 1000) (ht : SqT K H t xs) (hv : TdA K H xs (l.map Stp.dat)) (ho : StepsOk s.length l) (hd : ∀ st ∈ l, st.dep < n) (hn : 0 < n) (k : ∀ (p : Addr) (H' : Hp), Kp [] H H' → SqT K H' p (vI (runZ s z l)) → Q (.ref p) H') :
    spRan K n [.ref a, .ref b, .ref t] H Q E := ⟨false, a, b, t, z, s, xs, l, rfl, .of hz, hs, hl, h1, ht, hv, ho, hd, hn, fun p H' k' s' => k p H' k' s'.1⟩
end
theorem runZ_pls (s : List Int) : ∀ (l : List Pl) (z : List Int), runZ s z (l.map .pl) = plsZ s z l
  | [], _ => rfl
  | p :: r, z => runZ_pls s r (plZ s z p)
theorem pls_dat (l : List Pl) : (l.map Stp.pl).map Stp.dat = l.map Pl.dat := by
  rw [List.map_map]
  rfl
end WZ

/-! t * n of a tuple that is not empty, n from 1 on -/
namespace WZ
open PySem PySem.Spec PyProof.Rows L2
open AutoSeq1 (wpAny_loadPart')
theorem tuple_mul1 (l : Addr) (items : Array Value) (n : Nat) (dd : Option Addr) (sl : Array (Option Value)) (u : Tok) (k : Int) (c1 : (items.isEmpty || k == 1) = true) (k1 : 1 ≤ k) (k2 : k ≤ 1000) :
    Meets (Builtin.«tuple.__mul__» ⟨[.ref l, .int k u], []⟩) (fun _ R s => s.heap.get? l = some { cls := .type "tuple", dict := dd, data := .seq items n, slots := sl } ∧ R (.ok (.ret (Value.ref l))) s) :=
  .of_wp fun prog w A R s h => by
    obtain ⟨hp, g, d, tk, os⟩ := s
    obtain ⟨hl, h⟩ := h
    have f1 := AutoSeq1.idx_int
    have c2 : (decide (k < -(2 ^ 63)) || decide (k ≥ 2 ^ 63)) = false := by
      rw [Bool.or_eq_false_iff, decide_eq_false_iff_not, decide_eq_false_iff_not]
      omega
    wp_walk using wpAny_loadPart' hl
    repeat (first
      | (refine wpAny_ite_false (decide_eq_false (by rw [c2]; decide)) ?_; wp_walk using wpAny_loadPart' hl)
      | (refine wpAny_ite_true (decide_eq_true c1) ?_; wp_walk using wpAny_loadPart' hl))
    exact ⟨_, rfl, h⟩
def rRepA (K : PySem.W.Frag) : R2 := fun x y H Q => ∃ l k xs, x = .ref l ∧ y = .int k ∧ SqT K H l xs ∧ 1 ≤ k ∧ k ≤ 1000 ∧ xs.length ≤ 1000 ∧ ∀ p H', Kp [] H H' → SqT K H' p (List.replicate k.toNat xs).flatten → (H l = some (.tup xs) → H' p = some (.tup (List.replicate k.toNat xs).flatten)) → Q (.ref p) H'
theorem op_repA {X : Cx} : OpR X (binaryOp .Mult) (rRepA X.K) := by
  intro pins s σ H x y v u Q I rx ry h
  obtain ⟨l, k, xs, rfl, rfl, hT, h1, h2, hz, q⟩ := h
  by_cases hk : k = 1 ∨ xs = []
  · cases rx
    obtain ⟨t, rfl⟩ := ry
    obtain ⟨its, r, ⟨⟨cls, dd, data, sl⟩, ho, hc, n, hd⟩, hs⟩ := I.tuple hT
    simp only at hc hd
    subst hc hd
    have c1 : (its.toArray.isEmpty || k == 1) = true := by
      rcases hk with e | e
      · subst e
        simp
      · subst e
        cases r
        rfl
    have e : (List.replicate k.toNat xs).flatten = xs := by
      rcases hk with e | e
      · subst e
        simp
      · subst e
        simp
    refine wpAny_binaryOp_repeat_ref (T := "tuple") (U := "int") (by decide) ⟨_, ho, rfl⟩ (fun s' => typeIs_int s' k t) noFill_tuple_mul F.fills_int_mul F.slot_int_rmul repeat_tuple F.slot_int_index.lookup
      (call_meets F.slot_int_rmul (typeIs_int s k t) F.entry_int_rmul (F.args_int_rmul_2 _ _) (int_rmul_tuple k t l its.toArray n dd sl)
        ⟨ho, rfl, ⟨_, ho, rfl⟩, call_meets F.slot_tuple_mul ⟨_, ho, rfl⟩ F.entry_tuple_mul (F.args_tuple_mul_2 _ _) (tuple_mul1 l its.toArray n dd sl t k c1 h1 h2) ⟨ho, ?_⟩⟩)
    refine ⟨.ref l, H, I, rfl, q l H (Kp.refl H) ?_ ?_⟩
    · rw [e]
      exact hT
    · rw [e]
      exact id
  · exact op_repT pins s σ H _ _ v u Q I rx ry ⟨l, k, xs, rfl, rfl, hT, fun e => hk (.inr e), by omega, h2, hz, fun p n => q p _ (Kp.new n) (SqT.of upd_same) fun _ => upd_same⟩
theorem op_repAK {X : Cx} {K : PySem.W.Frag} (h : X.K = K := by rfl) : OpR X (binaryOp .Mult) (rRepA K) := h ▸ op_repA
theorem g_repA {K : PySem.W.Frag} {H : Hp} {Q : VK} {l : Addr} {k : Int} {xs : List V} (hT : SqT K H l xs) (hne : xs ≠ []) (h1 : 1 ≤ k) (h2 : k ≤ 1000) (hz : xs.length ≤ 1000) (q : ∀ p H', Kp [] H H' → SqT K H' p (List.replicate k.toNat xs).flatten → Q (.ref p) H') : rRepA K (.ref l) (.int k) H Q :=
  ⟨l, k, xs, rfl, rfl, hT, h1, h2, hz, fun p H' k s _ => q p H' k s⟩
theorem g_repB {K : PySem.W.Frag} {H : Hp} {Q : VK} {l : Addr} {k : Int} {xs : List V} (hT : H l = some (.tup xs)) (hne : xs ≠ []) (h1 : 1 ≤ k) (h2 : k ≤ 1000) (hz : xs.length ≤ 1000) (q : ∀ p H', Kp [] H H' → H' p = some (.tup (List.replicate k.toNat xs).flatten) → Q (.ref p) H') : rRepA K (.ref l) (.int k) H Q :=
  ⟨l, k, xs, rfl, rfl, SqT.of hT, h1, h2, hz, fun p H' k _ s => q p H' k (s hT)⟩
theorem g_repE {K : PySem.W.Frag} {H : Hp} {Q : VK} {l : Addr} {k : Int} {xs : List V} (hT : SqT K H l xs) (h1 : 1 ≤ k) (h2 : k ≤ 1000) (hz : xs.length ≤ 1000) (q : ∀ p H', Kp [] H H' → SqT K H' p (List.replicate k.toNat xs).flatten → Q (.ref p) H') : rRepA K (.ref l) (.int k) H Q :=
  ⟨l, k, xs, rfl, rfl, hT, h1, h2, hz, fun p H' k s _ => q p H' k s⟩
theorem rep_one {k : Int} (v : V) : (List.replicate k.toNat [v]).flatten = List.replicate k.toNat v := by
  generalize k.toNat = n
  induction n with
  | zero => rfl
  | succ n ih => rw [List.replicate_succ, List.flatten_cons, ih]; rfl
end WZ

/-! scripts, and what is promised of them -/
namespace WZ
open PySem PySem.Spec PyProof.Rows L2 StX
structure ScT (K : PySem.W.Frag) (C : Addr) : Prop where
  cl : Cls K C
  nM : NoAttr K C "many"
  nR : NoAttr K C "rows"
def scF (n : Nat) (v : V) : List (Str × V) := putF "rows" v (putF "many" (.int n) [])
theorem mr : ¬ (("many" : Str) = "rows") := by decide +kernel
theorem scF_many (n : Nat) (v : V) : (scF n v).lookup ("many" : Str) = some (.int n) := by
  unfold scF
  rw [lookup_putF, if_neg mr, lookup_putF, if_pos rfl]
theorem scF_rows (n : Nat) (v : V) : (scF n v).lookup ("rows" : Str) = some v := by
  unfold scF
  rw [lookup_putF, if_pos rfl]
theorem putF_len1 (f : Str) (v : V) : (putF f v []).length < 1000 := by
  have := length_putF f v []
  simp at this
  omega
/-- a Script of n wheels with the steps l stands at a -/
structure Scr (K : PySem.W.Frag) (C : Addr) (H : Hp) (a : Addr) (n : Nat) (l : List Stp) : Prop where
  at_ : ∃ dx v, H a = some (.ins C dx (scF n v)) ∧ Td K H v (dSteps l)
  ok : StepsOk n l
  cn : cnts l ≤ 5
  n1 : 1 ≤ n
  n3 : n ≤ 3
section
variable {K : PySem.W.Frag} {C : Addr} {H H' : Hp} {a : Addr} {n : Nat} {l : List Stp} {Q : VK} {E : XK} {M : List Addr}
theorem Kp.scr (k : Kp M H H') (s : Scr K C H a n l) (h : a ∉ M) : Scr K C H' a n l := by
  obtain ⟨dx, v, e, t⟩ := s.at_
  exact ⟨⟨dx, v, k.at_ e h, k.td t⟩, s.ok, s.cn, s.n1, s.n3⟩
theorem Scr.ne {p : Addr} (s : Scr K C H a n l) (h : H p = none) : p ≠ a := by
  obtain ⟨dx, v, e, t⟩ := s.at_
  exact (ne_of_none e h).symm
theorem g_many (T : ScT K C) (s : Scr K C H a n l) (k : Q (.int n) H) : xFld K "many" Q (.ref a) H := by
  obtain ⟨dx, v, e, t⟩ := s.at_
  exact g_xFld e T.cl T.nM (scF_many n v) k
theorem g_rows (T : ScT K C) (s : Scr K C H a n l) (k : ∀ (p : Addr) (xs : List V), SqT K H p xs → TdA K H xs (l.map Stp.dat) → Q (.ref p) H) : xFld K "rows" Q (.ref a) H := by
  obtain ⟨dx, v, e, t⟩ := s.at_
  obtain ⟨p, xs, rfl, h1, h2⟩ := t.inv
  exact g_xFld e T.cl T.nR (scF_rows n _) (k p xs h1 h2)
end
/-! all steps, those within others too -/
def Stp.inner : Stp → List Stp
  | .pl _ => []
  | .alike _ _ f g => (f ++ g).map .pl
def flat (l : List Stp) : List Stp := l.flatMap fun s => s :: s.inner
theorem flat_len : ∀ l : List Stp, (flat l).length = cnts l
  | [] => rfl
  | s :: r => by
    have h := flat_len r
    show (s :: s.inner ++ flat r).length = s.cnt + cnts r
    rw [List.length_append, h]
    cases s <;> simp [Stp.inner, Stp.cnt] <;> omega
theorem flat_app (a b : List Stp) : flat (a ++ b) = flat a ++ flat b := by simp [flat]
/-! sizes -/
def SzOk (s : List Int) : Prop := ∀ x ∈ s, 2 ≤ x ∧ x ≤ 10 ^ 30
def sizesD (n : Nat) : PyData → Bool
  | .tuple ds => decide (ds.length = n) && ds.all (intIn 2 (10 ^ 30))
  | _ => false
theorem sizesD_ok {s : List Int} (h : SzOk s) : sizesD s.length (dInts s) = true := by
  simp only [sizesD, dInts, List.length_map, decide_true, Bool.true_and, List.all_eq_true, List.mem_map]
  rintro _ ⟨x, hx, rfl⟩
  obtain ⟨h1, h2⟩ := h x hx
  simp only [intIn, Bool.and_eq_true, decide_eq_true_eq]
  exact ⟨h1, h2⟩
def zeros (n : Nat) : List Int := List.replicate n 0
def shownZ (s : List Int) (l : List Stp) : List Int := runZ s (zeros s.length) l
def traceZ (s : List Int) (l : List Stp) : List (List Int) := (List.range (l.length + 1)).map fun i => shownZ s (l.take i)
theorem shownZ_snoc (s : List Int) (l : List Stp) (st : Stp) : shownZ s (l ++ [st]) = stZ s (shownZ s l) st := by
  unfold shownZ runZ
  rw [List.foldl_append]
  rfl
theorem zeros_len (n : Nat) : (zeros n).length = n := List.length_replicate
theorem shownZ_len (s : List Int) (l : List Stp) : (shownZ s l).length = s.length := by rw [shownZ, runZ_len, zeros_len]
def spAllPlain (K : PySem.W.Frag) : Sp := fun vs H Q _ => ∃ (a : Addr) (xs : List V) (l : List Stp), vs = [.ref a] ∧ SqT K H a xs ∧ TdA K H xs (l.map Stp.dat) ∧ cnts l ≤ 1000 ∧
  ∀ (p : Addr) (ws : List V) (H' : Hp), H p = none → Kp [] H H' → H' p = some (.lst ws) → TdA K H' ws ((flat l).map Stp.dat) → Q (.ref p) H'
def spInit (K : PySem.W.Frag) (C : Addr) : Sp := fun vs H Q _ => ∃ (p dx : Addr) (n : Nat) (v : V) (l : List Stp), vs = [.ref p, .int n, v] ∧ H p = some (.ins C dx []) ∧ Td K H v (dSteps l) ∧ StepsOk n l ∧ cnts l ≤ 5 ∧ 1 ≤ n ∧ n ≤ 3 ∧
  ∀ (H' : Hp), Kp [p] H H' → Scr K C H' p n l → Q .non H'
def spFirst (K : PySem.W.Frag) : Sp := fun vs H Q _ => ∃ (b : Addr) (s : List Int), vs = [.ref b] ∧ SqT K H b (vI s) ∧ 1 ≤ s.length ∧ s.length ≤ 1000 ∧ ∀ (p : Addr) (H' : Hp), Kp [] H H' → H' p = some (.tup (vI (zeros s.length))) → Q (.ref p) H'
def spShownBy (K : PySem.W.Frag) (C : Addr) : Sp := fun vs H Q _ => ∃ (a b : Addr) (n : Nat) (l : List Stp) (s : List Int), vs = [.ref a, .ref b] ∧ Scr K C H a n l ∧ SqT K H b (vI s) ∧ s.length = n ∧
  ∀ (p : Addr) (H' : Hp), Kp [] H H' → H' p = some (.tup (vI (shownZ s l))) → Q (.ref p) H'
def spAreSizes (K : PySem.W.Frag) : Sp := fun vs H Q _ => ∃ (v : V) (d : PyData) (n : Nat), vs = [v, .int n] ∧ Dp K H v d ∧ Sz1 d ∧ ∀ H', Kp [] H H' → Q (.bl (sizesD n d)) H'
def spCheckSizes (K : PySem.W.Frag) : Sp := fun vs H Q _ => ∃ (v : V) (d : PyData) (n : Nat), vs = [v, .int n] ∧ Dp K H v d ∧ Sz1 d ∧ sizesD n d = true ∧ ∀ H', Kp [] H H' → Q .non H'
def spShown (K : PySem.W.Frag) (C : Addr) : Sp := fun vs H Q _ => ∃ (a b : Addr) (n : Nat) (l : List Stp) (s : List Int), vs = [.ref a, .ref b] ∧ Scr K C H a n l ∧ SqT K H b (vI s) ∧ s.length = n ∧ SzOk s ∧
  ∀ (p : Addr) (H' : Hp), Kp [] H H' → SqT K H' p (vI (shownZ s l)) → Q (.ref p) H'
def spTrace (K : PySem.W.Frag) (C : Addr) : Sp := fun vs H Q _ => ∃ (a b : Addr) (n : Nat) (l : List Stp) (s : List Int), vs = [.ref a, .ref b] ∧ Scr K C H a n l ∧ SqT K H b (vI s) ∧ s.length = n ∧ SzOk s ∧
  ∀ (p : Addr) (ws : List V) (H' : Hp), H p = none → Kp [] H H' → H' p = some (.lst ws) → TdA K H' ws ((traceZ s l).map dInts) → Q (.ref p) H'
section
variable {K : PySem.W.Frag} {C : Addr} {H : Hp} {a b : Addr} {n : Nat} {l : List Stp} {Q : VK} {E : XK} {s : List Int}
theorem ap_allPlain {xs : List V} (h : SqT K H a xs) (t : TdA K H xs (l.map Stp.dat)) (c : cnts l ≤ 1000) (k : ∀ (p : Addr) (ws : List V) (H' : Hp), H p = none → Kp [] H H' → H' p = some (.lst ws) → TdA K H' ws ((flat l).map Stp.dat) → Q (.ref p) H') : spAllPlain K [.ref a] H Q E := ⟨a, xs, l, rfl, h, t, c, k⟩
theorem ap_firstB (h : SqT K H b (vI s)) (h1 : 1 ≤ s.length) (h2 : s.length ≤ 1000) (k : ∀ (p : Addr) (H' : Hp), Kp [] H H' → H' p = some (.tup (vI (zeros s.length))) → Q (.ref p) H') : spFirst K [.ref b] H Q E := ⟨b, s, rfl, h, h1, h2, k⟩
theorem ap_shownByB (h : Scr K C H a n l) (hs : SqT K H b (vI s)) (hl : s.length = n) (k : ∀ (p : Addr) (H' : Hp), Kp [] H H' → H' p = some (.tup (vI (shownZ s l))) → Q (.ref p) H') : spShownBy K C [.ref a, .ref b] H Q E := ⟨a, b, n, l, s, rfl, h, hs, hl, k⟩
theorem ap_first (h : SqT K H b (vI s)) (h1 : 1 ≤ s.length) (h2 : s.length ≤ 1000) (k : ∀ (p : Addr) (H' : Hp), Kp [] H H' → SqT K H' p (vI (zeros s.length)) → Q (.ref p) H') : spFirst K [.ref b] H Q E := ⟨b, s, rfl, h, h1, h2, fun p H' k' s' => k p H' k' (SqT.of s')⟩
theorem ap_shownBy (h : Scr K C H a n l) (hs : SqT K H b (vI s)) (hl : s.length = n) (k : ∀ (p : Addr) (H' : Hp), Kp [] H H' → SqT K H' p (vI (shownZ s l)) → Q (.ref p) H') : spShownBy K C [.ref a, .ref b] H Q E := ⟨a, b, n, l, s, rfl, h, hs, hl, fun p H' k' s' => k p H' k' (SqT.of s')⟩
theorem ap_areSizes {v : V} {d : PyData} (h : Dp K H v d) (z : Sz1 d) (k : ∀ H', Kp [] H H' → Q (.bl (sizesD n d)) H') : spAreSizes K [v, .int n] H Q E := ⟨v, d, n, rfl, h, z, k⟩
theorem ap_checkSizes (hs : SqT K H b (vI s)) (hl : s.length = n) (ho : SzOk s) (h1 : s.length ≤ 1000) (k : ∀ H', Kp [] H H' → Q .non H') : spCheckSizes K [.ref b, .int n] H Q E :=
  ⟨.ref b, dInts s, n, rfl, (Td.vI hs).dp, fun ds e => by cases e; rw [List.length_map]; exact h1, by rw [← hl]; exact sizesD_ok ho, k⟩
theorem ap_shown (h : Scr K C H a n l) (hs : SqT K H b (vI s)) (hl : s.length = n) (ho : SzOk s) (k : ∀ (p : Addr) (H' : Hp), Kp [] H H' → SqT K H' p (vI (shownZ s l)) → Q (.ref p) H') : spShown K C [.ref a, .ref b] H Q E := ⟨a, b, n, l, s, rfl, h, hs, hl, ho, k⟩
theorem ap_trace (h : Scr K C H a n l) (hs : SqT K H b (vI s)) (hl : s.length = n) (ho : SzOk s) (k : ∀ (p : Addr) (ws : List V) (H' : Hp), H p = none → Kp [] H H' → H' p = some (.lst ws) → TdA K H' ws ((traceZ s l).map dInts) → Q (.ref p) H') : spTrace K C [.ref a, .ref b] H Q E := ⟨a, b, n, l, s, rfl, h, hs, hl, ho, k⟩
/-- Script(n, steps): the whole call -/
theorem ap_script {v : V} (h : Td K H v (dSteps l)) (ho : StepsOk n l) (hc : cnts l ≤ 5) (h1 : 1 ≤ n) (h3 : n ≤ 3) (k : ∀ (p : Addr) (H' : Hp), H p = none → Kp [] H H' → Scr K C H' p n l → Q (.ref p) H') : xMk C (spInit K C) E Q [.int n, v] H :=
  g_xMk fun x dx H2 nx k2 e2 => ⟨x, dx, n, v, l, rfl, e2, k2.td h, ho, hc, h1, h3, fun H3 k3 s3 => ⟨rfl, k x H3 nx (k2.step1 k3 (.inr nx)) s3⟩⟩
end
end WZ

/-! the law's own moves are the turns -/
namespace WZ
open PySem PySem.Spec PyProof.Rows L2 StX
def OkZ : List Int → List Int → Prop
  | [], [] => True
  | z :: zs, s :: ss => 0 ≤ z ∧ z < s ∧ OkZ zs ss
  | _, _ => False
theorem OkZ.len : ∀ {z s : List Int}, OkZ z s → z.length = s.length
  | [], [], _ => rfl
  | _ :: _, _ :: _, h => by simp [OkZ.len h.2.2]
  | [], _ :: _, h => h.elim
  | _ :: _, [], h => h.elim
theorem OkZ.get : ∀ {z s : List Int} {i : Nat} {x y : Int}, OkZ z s → z[i]? = some x → s[i]? = some y → 0 ≤ x ∧ x < y
  | _ :: _, _ :: _, 0, _, _, h, hx, hy => by
    simp at hx hy
    subst hx hy
    exact ⟨h.1, h.2.1⟩
  | _ :: _, _ :: _, i + 1, _, _, h, hx, hy => OkZ.get (i := i) h.2.2 (by simpa using hx) (by simpa using hy)
  | [], [], _, _, _, _, hx, _ => by simp at hx
  | [], _ :: _, _, _, _, h, _, _ => h.elim
  | _ :: _, [], _, _, _, h, _, _ => h.elim
theorem OkZ.set : ∀ {z s : List Int} {i : Nat} {x : Int}, OkZ z s → (∀ y, s[i]? = some y → 0 ≤ x ∧ x < y) → OkZ (z.set i x) s
  | _ :: _, s :: _, 0, _, h, hx => ⟨(hx s rfl).1, (hx s rfl).2, h.2.2⟩
  | _ :: _, _ :: _, i + 1, _, h, hx => ⟨h.1, h.2.1, OkZ.set h.2.2 fun y hy => hx y (by simpa using hy)⟩
  | [], [], _, _, h, _ => h
  | [], _ :: _, _, _, h, _ => h.elim
  | _ :: _, [], _, _, h, _ => h.elim
theorem OkZ.zeros : ∀ {s : List Int}, (∀ x ∈ s, 2 ≤ x) → OkZ (zeros s.length) s
  | [], _ => trivial
  | s :: r, h => by
    have := h s List.mem_cons_self
    exact ⟨Int.le_refl 0, by omega, OkZ.zeros fun x hx => h x (List.mem_cons_of_mem _ hx)⟩
theorem carry_ok {c : Int} (hc : c = 1 ∨ c = -1 ∨ c = 0) : ∀ {z s : List Int} {b : Int}, OkZ z s → (∀ x ∈ s, 2 ≤ x) → -2 ≤ b → b ≤ 2 → OkZ (carry c z s b) s
  | [], [], _, h, _, _, _ => h
  | [], _ :: _, _, h, _, _, _ => h.elim
  | _ :: _, [], _, h, _, _, _ => h.elim
  | z :: zs, s :: ss, b, h, hs, h1, h2 => by
    obtain ⟨a1, a2, a3⟩ := h
    have hs2 := hs s List.mem_cons_self
    unfold carry
    split
    · exact ⟨a1, a2, a3⟩
    · split
      · refine ⟨by omega, by omega, carry_ok hc a3 (fun x hx => hs x (List.mem_cons_of_mem _ hx)) ?_ ?_⟩ <;> omega
      · split
        · refine ⟨by omega, by omega, carry_ok hc a3 (fun x hx => hs x (List.mem_cons_of_mem _ hx)) ?_ ?_⟩ <;> omega
        · refine ⟨by omega, by omega, carry_ok hc a3 (fun x hx => hs x (List.mem_cons_of_mem _ hx)) ?_ ?_⟩ <;> omega
theorem OkZ.app : ∀ {z s : List Int} (w : Nat) {z' : List Int}, OkZ z s → OkZ z' (s.drop w) → OkZ (z.take w ++ z') s
  | _, _, 0, _, _, h => h
  | [], [], _ + 1, _, _, h => h
  | _ :: _, _ :: _, w + 1, _, h, h' => ⟨h.1, h.2.1, OkZ.app w h.2.2 h'⟩
  | [], _ :: _, _ + 1, _, h, _ => h.elim
  | _ :: _, [], _ + 1, _, h, _ => h.elim
theorem OkZ.drop : ∀ {z s : List Int} (w : Nat), OkZ z s → OkZ (z.drop w) (s.drop w)
  | _, _, 0, h => h
  | [], [], _ + 1, h => h
  | _ :: _, _ :: _, w + 1, h => OkZ.drop w h.2.2
  | [], _ :: _, _ + 1, h => h.elim
  | _ :: _, [], _ + 1, h => h.elim
theorem wd_c (k : Wd) : k.c = 1 ∨ k.c = -1 ∨ k.c = 0 := by cases k <;> simp [Wd.c]
theorem turnZ_ok {s z : List Int} {w : Nat} {b c : Int} (hc : c = 1 ∨ c = -1 ∨ c = 0) (h : OkZ z s) (hs : ∀ x ∈ s, 2 ≤ x) (h1 : -2 ≤ b) (h2 : b ≤ 2) : OkZ (turnZ s z w b c) s :=
  OkZ.app w h (carry_ok hc (h.drop w) (fun x hx => hs x (List.mem_of_mem_drop hx)) h1 h2)
theorem plZ_ok {s z : List Int} {p : Pl} (h : OkZ z s) (hs : ∀ x ∈ s, 2 ≤ x) (hp : p.ok s.length) : OkZ (plZ s z p) s := by
  cases p with
  | turn w b k =>
    obtain ⟨h1, h2⟩ := hp
    exact turnZ_ok (wd_c k) h hs (by omega) (by omega)
  | set w p =>
    obtain ⟨h1, h2, h3⟩ := hp
    refine OkZ.set h fun y hy => ?_
    have hm := hs y (List.mem_of_getElem? hy)
    rw [List.getD_eq_getElem?_getD, hy]
    show 0 ≤ (if 0 ≤ p then p else y + p) ∧ (if 0 ≤ p then p else y + p) < y
    split <;> omega
theorem plsZ_ok {s : List Int} (hs : ∀ x ∈ s, 2 ≤ x) : ∀ {l : List Pl} {z : List Int}, OkZ z s → (∀ p ∈ l, p.ok s.length) → OkZ (plsZ s z l) s
  | [], _, h, _ => h
  | p :: r, _, h, hp => plsZ_ok hs (l := r) (plZ_ok h hs (hp p List.mem_cons_self)) fun q hq => hp q (List.mem_cons_of_mem _ hq)
theorem stZ_ok {s z : List Int} {p : Stp} (h : OkZ z s) (hs : ∀ x ∈ s, 2 ≤ x) (hp : p.ok s.length) : OkZ (stZ s z p) s := by
  cases p with
  | pl p => exact plZ_ok h hs hp
  | alike a b f g =>
    obtain ⟨h1, h2, h3, h4⟩ := hp
    show OkZ (plsZ s z (if z.getD a 0 = z.getD b 0 then f else g)) s
    split
    · exact plsZ_ok hs h h3
    · exact plsZ_ok hs h h4
theorem runZ_ok {s : List Int} (hs : ∀ x ∈ s, 2 ≤ x) : ∀ {l : List Stp} {z : List Int}, OkZ z s → StepsOk s.length l → OkZ (runZ s z l) s
  | [], _, h, _ => h
  | p :: r, _, h, hp => runZ_ok hs (l := r) (stZ_ok h hs (hp p List.mem_cons_self)) fun q hq => hp q (List.mem_cons_of_mem _ hq)
/-- one place is as the law's move says -/
theorem move_one {s z : List Int} {w : Nat} {b c x y : Int} (hb : b = 1 ∨ b = -1) (hx : z[w]? = some x) (hy : s[w]? = some y) (h0 : 0 ≤ x) (h1 : x < y) :
    turnZ s z w b c = if x + b = y ∨ x + b < 0 then turnZ s (z.set w (if b > 0 then 0 else y - 1)) (w + 1) (b * c) c else z.set w (x + b) := by
  rw [turnZ_step (by omega) hx hy]
  by_cases h : y ≤ x + b
  · rw [if_pos h, if_pos (by omega), if_pos (by omega)]
    have e : b = 1 := by omega
    subst e
    rw [show x + 1 - 1 * y = 0 by omega]
  · rw [if_neg h]
    by_cases h2 : x + b < 0
    · rw [if_pos h2, if_pos (.inr h2), if_neg (by omega)]
      have e : b = -1 := by omega
      subst e
      rw [show x + -1 - -1 * y = y - 1 by omega]
    · rw [if_neg h2, if_neg (by omega), Int.zero_mul, Int.zero_mul, turnZ_zero, Int.sub_zero]
theorem carry_hi {c z s b : Int} {zs ss : List Int} (hb : b ≠ 0) (h : s ≤ z + b) : carry c (z :: zs) (s :: ss) b = (z + b - s) :: carry c zs ss c := by
  conv => lhs; unfold carry
  rw [if_neg hb, if_pos h, Int.one_mul, Int.one_mul]
theorem carry_lo {c z s b : Int} {zs ss : List Int} (hb : b ≠ 0) (h : ¬ s ≤ z + b) (h' : z + b < 0) : carry c (z :: zs) (s :: ss) b = (z + b + s) :: carry c zs ss (-1 * c) := by
  conv => lhs; unfold carry
  rw [if_neg hb, if_neg h, if_pos h', show z + b - -1 * s = z + b + s by omega]
theorem carry_mid {c z s b : Int} {zs ss : List Int} (h : ¬ s ≤ z + b) (h' : ¬ z + b < 0) : carry c (z :: zs) (s :: ss) b = (z + b) :: zs := by
  by_cases hb : b = 0
  · rw [hb, carry_zero, Int.add_zero]
  · conv => lhs; unfold carry
    rw [if_neg hb, if_neg h, if_neg h', Int.zero_mul, Int.zero_mul, carry_zero, Int.sub_zero]
theorem carry_two {c : Int} {z s : List Int} {b : Int} (hb : b = 1 ∨ b = -1) (h : OkZ z s) (hs : ∀ x ∈ s, 2 ≤ x) : carry c (carry c z s b) s b = carry c z s (2 * b) := by
  cases z with
  | nil => cases s <;> simp [carry]
  | cons z zs => cases s with
    | nil => exact h.elim
    | cons s ss =>
      obtain ⟨a1, a2, a3⟩ := h
      have hs2 := hs s List.mem_cons_self
      rcases hb with rfl | rfl
      · by_cases h1 : s ≤ z + 1
        · rw [carry_hi (by decide) h1, carry_mid (by omega) (by omega), carry_hi (by decide) (by omega)]
          congr 1
          omega
        · rw [carry_mid h1 (by omega)]
          by_cases h2 : s ≤ z + 1 + 1
          · rw [carry_hi (by decide) h2, carry_hi (by decide) (by omega)]
            congr 1
            omega
          · rw [carry_mid h2 (by omega), carry_mid (by omega) (by omega)]
            congr 1
            omega
      · by_cases h1 : z + -1 < 0
        · rw [carry_lo (by decide) (by omega) h1, carry_mid (by omega) (by omega), carry_lo (by decide) (by omega) (by omega)]
          congr 1
          omega
        · rw [carry_mid (by omega) h1]
          by_cases h2 : z + -1 + -1 < 0
          · rw [carry_lo (by decide) (by omega) h2, carry_lo (by decide) (by omega) (by omega)]
            congr 1
            omega
          · rw [carry_mid (by omega) h2, carry_mid (by omega) (by omega)]
            congr 1
            omega
theorem turnZ_two {s z : List Int} {w : Nat} {b c : Int} (hb : b = 1 ∨ b = -1) (h : OkZ z s) (hs : ∀ x ∈ s, 2 ≤ x) (hw : w < z.length) : turnZ s (turnZ s z w b c) w b c = turnZ s z w (2 * b) c := by
  have e1 : (z.take w ++ carry c (z.drop w) (s.drop w) b).take w = z.take w := by
    rw [List.take_append_of_le_length (by simp; omega), List.take_take, Nat.min_self]
  have e2 : (z.take w ++ carry c (z.drop w) (s.drop w) b).drop w = carry c (z.drop w) (s.drop w) b := by
    rw [List.drop_append_of_le_length (by simp; omega), List.drop_eq_nil_of_le (by simp; omega), List.nil_append]
  show (z.take w ++ carry c (z.drop w) (s.drop w) b).take w ++ carry c ((z.take w ++ carry c (z.drop w) (s.drop w) b).drop w) (s.drop w) b = _
  rw [e1, e2, carry_two hb (h.drop w) fun x hx => hs x (List.mem_of_mem_drop hx)]
  rfl
/-! promises -/
def spMove (K : PySem.W.Frag) (n : Nat) : Sp := fun vs H Q _ => ∃ (l b : Addr) (z s : List Int) (wh : Nat) (by_ : Int) (kd : Wd), vs = [.ref l, .ref b, .int wh, .int by_, .str kd.s] ∧ H l = some (.lst (vI z)) ∧ SqT K H b (vI s) ∧ OkZ z s ∧ (∀ x ∈ s, 2 ≤ x) ∧ wh < s.length ∧ s.length ≤ wh + n ∧ (by_ = 1 ∨ by_ = -1) ∧
  ∀ (H' : Hp), Kp [l] H H' → H' l = some (.lst (vI (turnZ s z wh by_ kd.c))) → Q .non H'
def spDo (K : PySem.W.Frag) (n : Nat) : Sp := fun vs H Q _ => ∃ (l b : Addr) (z s : List Int) (v : V) (st : Stp), vs = [.ref l, .ref b, v] ∧ H l = some (.lst (vI z)) ∧ SqT K H b (vI s) ∧ OkZ z s ∧ (∀ x ∈ s, 2 ≤ x) ∧ s.length ≤ 3 ∧ Td K H v st.dat ∧ st.ok s.length ∧ st.dep < n ∧
  ∀ (H' : Hp), Kp [l] H H' → H' l = some (.lst (vI (stZ s z st))) → Q .non H'
def spLRan (K : PySem.W.Frag) : Sp := fun vs H Q _ => ∃ (a b t : Addr) (z s : List Int) (xs : List V) (l : List Stp), vs = [.ref a, .ref b, .ref t] ∧ SqT K H a (vI z) ∧ SqT K H b (vI s) ∧ OkZ z s ∧ (∀ x ∈ s, 2 ≤ x) ∧ s.length ≤ 3 ∧ SqT K H t xs ∧ TdA K H xs (l.map Stp.dat) ∧ StepsOk s.length l ∧
  ∀ (p : Addr) (H' : Hp), Kp [] H H' → SqT K H' p (vI (runZ s z l)) → Q (.ref p) H'
def spLShown (K : PySem.W.Frag) : Sp := fun vs H Q _ => ∃ (b t : Addr) (s : List Int) (xs : List V) (l : List Stp), vs = [.ref b, .ref t] ∧ SqT K H b (vI s) ∧ (∀ x ∈ s, 2 ≤ x) ∧ 1 ≤ s.length ∧ s.length ≤ 3 ∧ SqT K H t xs ∧ TdA K H xs (l.map Stp.dat) ∧ StepsOk s.length l ∧
  ∀ (p : Addr) (H' : Hp), Kp [] H H' → SqT K H' p (vI (shownZ s l)) → Q (.ref p) H'
def spAlike (K : PySem.W.Frag) (n : Nat) : Sp := fun vs H Q _ => ∃ (x y : V) (d : PyData), vs = [x, y] ∧ Dp K H x d ∧ Dp K H y d ∧ SeqAt.shaped d = true ∧ d.depth < n ∧ PyData.weight d ≤ 100000 ∧ ∀ H', Kp [] H H' → Q (.bl true) H'
section
variable {K : PySem.W.Frag} {H : Hp} {Q : VK} {E : XK} {l a b t : Addr} {z s : List Int} {n : Nat}
theorem ap_move {wh : Nat} {by_ : Int} {kd : Wd} (hz : H l = some (.lst (vI z))) (hs : SqT K H b (vI s)) (ok : OkZ z s) (h2 : ∀ x ∈ s, 2 ≤ x) (hw : wh < s.length) (hn : s.length ≤ wh + n) (hb : by_ = 1 ∨ by_ = -1) (k : ∀ (H' : Hp), Kp [l] H H' → H' l = some (.lst (vI (turnZ s z wh by_ kd.c))) → Q .non H') :
    spMove K n [.ref l, .ref b, .int wh, .int by_, .str kd.s] H Q E := ⟨l, b, z, s, wh, by_, kd, rfl, hz, hs, ok, h2, hw, hn, hb, k⟩
theorem ap_do {v : V} {st : Stp} (hz : H l = some (.lst (vI z))) (hs : SqT K H b (vI s)) (ok : OkZ z s) (h2 : ∀ x ∈ s, 2 ≤ x) (h3 : s.length ≤ 3) (hv : Td K H v st.dat) (ho : st.ok s.length) (hd : st.dep < n) (k : ∀ (H' : Hp), Kp [l] H H' → H' l = some (.lst (vI (stZ s z st))) → Q .non H') :
    spDo K n [.ref l, .ref b, v] H Q E := ⟨l, b, z, s, v, st, rfl, hz, hs, ok, h2, h3, hv, ho, hd, k⟩
theorem ap_lran {xs : List V} {l : List Stp} (hz : SqT K H a (vI z)) (hs : SqT K H b (vI s)) (ok : OkZ z s) (h2 : ∀ x ∈ s, 2 ≤ x) (h3 : s.length ≤ 3) (ht : SqT K H t xs) (hv : TdA K H xs (l.map Stp.dat)) (ho : StepsOk s.length l) (k : ∀ (p : Addr) (H' : Hp), Kp [] H H' → SqT K H' p (vI (runZ s z l)) → Q (.ref p) H') :
    spLRan K [.ref a, .ref b, .ref t] H Q E := ⟨a, b, t, z, s, xs, l, rfl, hz, hs, ok, h2, h3, ht, hv, ho, k⟩
theorem ap_lshown {xs : List V} {l : List Stp} (hs : SqT K H b (vI s)) (h2 : ∀ x ∈ s, 2 ≤ x) (h1 : 1 ≤ s.length) (h3 : s.length ≤ 3) (ht : SqT K H t xs) (hv : TdA K H xs (l.map Stp.dat)) (ho : StepsOk s.length l) (k : ∀ (p : Addr) (H' : Hp), Kp [] H H' → SqT K H' p (vI (shownZ s l)) → Q (.ref p) H') :
    spLShown K [.ref b, .ref t] H Q E := ⟨b, t, s, xs, l, rfl, hs, h2, h1, h3, ht, hv, ho, k⟩
theorem ap_alike {x y : V} (d : PyData) (h1 : Dp K H x d) (h2 : Dp K H y d) (hs : SeqAt.shaped d = true) (hd : d.depth < n) (hw : PyData.weight d ≤ 100000) (k : ∀ H', Kp [] H H' → Q (.bl true) H') : spAlike K n [x, y] H Q E := ⟨x, y, d, rfl, h1, h2, hs, hd, hw, k⟩
end
theorem g_isiTL {K : PySem.W.Frag} {H : Hp} {v : V} {d : PyData} {Q : VK} {tp : Addr} (b : Bool) (h : H tp = some (.tup [.ty "tuple", .ty "list"])) (hd : Dp K H v d) (e : b = (decide (tyD d = "tuple") || decide (tyD d = "list"))) (k : Q (.bl b) H) : rIsiT K [v, .ref tp] H Q := by
  refine ⟨v, tp, [.ty "tuple", .ty "list"], .type (tyD d), [.type "tuple", .type "list"], b, rfl, h, .cons (.ty _) (.cons (.ty _) .nil), dp_ty hd, ?_, k⟩
  subst e
  cases d with
  | tuple _ => exact kitAny_cons (b := true) (kit_ty (by show kitB "tuple" "tuple" = _; decide +kernel)) (fun z => nomatch z) fun _ => rfl
  | list _ => exact kitAny_cons (b := false) (kit_ty (by show kitB "list" "tuple" = _; decide +kernel)) (fun _ => kitAny_cons (b := true) (kit_ty (by show kitB "list" "list" = _; decide +kernel)) (fun z => nomatch z) fun _ => rfl) (fun z => nomatch z)
  | none => exact kitAny_cons (b := false) (kit_ty (by show kitB "NoneType" "tuple" = _; decide +kernel)) (fun _ => kitAny_cons (b := false) (kit_ty (by show kitB "NoneType" "list" = _; decide +kernel)) (fun _ => rfl) (fun z => nomatch z)) (fun z => nomatch z)
  | bool _ => exact kitAny_cons (b := false) (kit_ty (by show kitB "bool" "tuple" = _; decide +kernel)) (fun _ => kitAny_cons (b := false) (kit_ty (by show kitB "bool" "list" = _; decide +kernel)) (fun _ => rfl) (fun z => nomatch z)) (fun z => nomatch z)
  | int _ => exact kitAny_cons (b := false) (kit_ty (by show kitB "int" "tuple" = _; decide +kernel)) (fun _ => kitAny_cons (b := false) (kit_ty (by show kitB "int" "list" = _; decide +kernel)) (fun _ => rfl) (fun z => nomatch z)) (fun z => nomatch z)
  | str _ => exact kitAny_cons (b := false) (kit_ty (by show kitB "str" "tuple" = _; decide +kernel)) (fun _ => kitAny_cons (b := false) (kit_ty (by show kitB "str" "list" = _; decide +kernel)) (fun _ => rfl) (fun z => nomatch z)) (fun z => nomatch z)
  | dict _ => cases hd
theorem weight_len : ∀ ds : List PyData, ds.length ≤ PyData.weightAll ds
  | [] => Nat.zero_le _
  | d :: r => by
    have := weight_len r
    simp only [PyData.weightAll, List.length_cons]
    omega
theorem weight_mem : ∀ {ds : List PyData} {d : PyData}, d ∈ ds → d.weight ≤ PyData.weightAll ds
  | e :: r, d, h => by
    simp only [PyData.weightAll]
    rcases List.mem_cons.mp h with z | z
    · subst z
      omega
    · have := weight_mem z
      omega
theorem depth_mem : ∀ {ds : List PyData} {d : PyData}, d ∈ ds → d.depth ≤ PyData.depthAll ds
  | e :: r, d, h => by
    simp only [PyData.depthAll]
    rcases List.mem_cons.mp h with z | z
    · subst z
      omega
    · have := depth_mem z
      omega
theorem shaped_memL {ds : List PyData} (h : SeqAt.shaped (.list ds) = true) : ∀ d ∈ ds, SeqAt.shaped d = true := by
  refine shaped_mem (ds := ds) ?_
  simpa [SeqAt.shaped, PyData.canLay0, PyData.depth] using h
/-- a sequence of either kind -/
def SqLT (K : PySem.W.Frag) (H : Hp) (b : Bool) (p : Addr) (xs : List V) : Prop := if b = true then SqL K H p xs else SqT K H p xs
end WZ

/-! how large what the law compares is -/
namespace WZ
open PySem PySem.Spec PyProof.Rows L2 StX
theorem wt_int {x : Int} (h : x.natAbs < 2 ^ 100) : (PyData.int x).weight ≤ 100 := by
  unfold PyData.weight
  split
  · exact Nat.zero_le _
  · rename_i h0
    have h1 : x.natAbs ≠ 0 := by
      intro z
      apply h0
      rw [Int.natAbs_eq_zero.mp z]
      rfl
    have := (Nat.log2_lt h1).mpr h
    omega
def Sm (z : List Int) : Prop := ∀ x ∈ z, x.natAbs < 2 ^ 100
theorem w_ints : ∀ {z : List Int}, Sm z → PyData.weightAll (z.map PyData.int) ≤ 101 * z.length
  | [], _ => Nat.le_refl _
  | x :: r, h => by
    have h1 := wt_int (h x List.mem_cons_self)
    have h2 := w_ints (z := r) fun y hy => h y (List.mem_cons_of_mem _ hy)
    simp only [List.map_cons, PyData.weightAll, List.length_cons]
    omega
theorem dp_ints : ∀ z : List Int, PyData.depthAll (z.map PyData.int) = 0
  | [] => rfl
  | x :: r => by
    simp only [List.map_cons, PyData.depthAll, PyData.depth]
    rw [dp_ints r]
    rfl
theorem can_ints : ∀ z : List Int, PyData.canLayAll0 (z.map PyData.int) = true
  | [] => rfl
  | x :: r => by
    simp only [List.map_cons, PyData.canLayAll0, PyData.canLay0]
    rw [can_ints r]
    rfl
theorem dInts_w {z : List Int} (h : Sm z) : (dInts z).weight ≤ 101 * z.length := w_ints h
theorem dInts_d (z : List Int) : (dInts z).depth = 1 := by
  show PyData.depthAll (z.map PyData.int) + 1 = 1
  rw [dp_ints]
theorem dInts_s (z : List Int) : SeqAt.shaped (dInts z) = true := by
  unfold SeqAt.shaped
  rw [dInts_d]
  have : (dInts z).canLay0 = true := can_ints z
  rw [this]
  rfl
def dRows (zs : List (List Int)) : PyData := .list (zs.map dInts)
theorem w_rows : ∀ {zs : List (List Int)}, (∀ z ∈ zs, Sm z ∧ z.length ≤ 3) → PyData.weightAll (zs.map dInts) ≤ 304 * zs.length
  | [], _ => Nat.le_refl _
  | z :: r, h => by
    have h1 := dInts_w (h z List.mem_cons_self).1
    have h3 := (h z List.mem_cons_self).2
    have h2 := w_rows (zs := r) fun y hy => h y (List.mem_cons_of_mem _ hy)
    simp only [List.map_cons, PyData.weightAll, List.length_cons]
    omega
theorem dp_rows : ∀ zs : List (List Int), PyData.depthAll (zs.map dInts) ≤ 1
  | [] => Nat.zero_le _
  | z :: r => by
    simp only [List.map_cons, PyData.depthAll]
    rw [dInts_d]
    have := dp_rows r
    omega
theorem lay_rows : ∀ zs : List (List Int), PyData.canLayAll0 (zs.map dInts) = true
  | [] => rfl
  | z :: r => by
    simp only [List.map_cons, PyData.canLayAll0]
    rw [lay_rows r]
    have : (dInts z).canLay0 = true := can_ints z
    rw [this]
    rfl
theorem dRows_w {zs : List (List Int)} (h : ∀ z ∈ zs, Sm z ∧ z.length ≤ 3) : (dRows zs).weight ≤ 304 * zs.length := w_rows h
theorem dRows_d (zs : List (List Int)) : (dRows zs).depth ≤ 2 := by
  show PyData.depthAll (zs.map dInts) + 1 ≤ 2
  have := dp_rows zs
  omega
theorem dRows_s (zs : List (List Int)) : SeqAt.shaped (dRows zs) = true := by
  unfold SeqAt.shaped
  have h1 : (dRows zs).canLay0 = true := lay_rows zs
  have h2 := dRows_d zs
  rw [h1, Bool.true_and]
  exact decide_eq_true (by omega)
theorem OkZ.sm : ∀ {z s : List Int}, OkZ z s → SzOk s → Sm z
  | [], [], _, _ => fun _ h => by cases h
  | x :: z, y :: s, h, hs => fun w hw => by
    rcases List.mem_cons.mp hw with e | e
    · subst e
      have h1 := h.1
      have h2 := h.2.1
      have h3 := (hs y List.mem_cons_self).2
      have h4 : (10 : Int) ^ 30 < 2 ^ 100 := by decide
      have h5 : (2 : Int) ^ 100 = ((2 ^ 100 : Nat) : Int) := by norm_cast
      omega
    · exact OkZ.sm (z := z) (s := s) h.2.2 (fun v hv => hs v (List.mem_cons_of_mem _ hv)) w e
  | [], _ :: _, h, _ => h.elim
  | _ :: _, [], h, _ => h.elim
theorem SzOk.two {s : List Int} (h : SzOk s) : ∀ x ∈ s, 2 ≤ x := fun x hx => (h x hx).1
theorem shownZ_ok {s : List Int} {l : List Stp} (h : SzOk s) (hl : StepsOk s.length l) : OkZ (shownZ s l) s := runZ_ok h.two (OkZ.zeros h.two) hl
theorem StepsOk.take {n : Nat} {l : List Stp} (h : StepsOk n l) (i : Nat) : StepsOk n (l.take i) := fun p hp => h p (List.mem_of_mem_take hp)
theorem StepsOk.drop {n : Nat} {l : List Stp} (h : StepsOk n l) (i : Nat) : StepsOk n (l.drop i) := fun p hp => h p (List.mem_of_mem_drop hp)
theorem SzOk.app {s : List Int} {x : Int} (h : SzOk s) (h1 : 2 ≤ x) (h2 : x ≤ 10 ^ 30) : SzOk (s ++ [x]) := fun y hy => by
  rcases List.mem_append.mp hy with e | e
  · exact h y e
  · rw [List.mem_singleton.mp e]
    exact ⟨h1, h2⟩
theorem SzOk.nil : SzOk [] := fun _ h => by cases h
theorem traceZ_len (s : List Int) (l : List Stp) : (traceZ s l).length = l.length + 1 := by
  simp [traceZ]
theorem traceZ_mem {s : List Int} {l : List Stp} (h : SzOk s) (hl : StepsOk s.length l) (h3 : s.length ≤ 3) : ∀ z ∈ traceZ s l, Sm z ∧ z.length ≤ 3 := by
  intro z hz
  simp only [traceZ, List.mem_map] at hz
  obtain ⟨i, _, rfl⟩ := hz
  refine ⟨(shownZ_ok h (hl.take i)).sm h, ?_⟩
  rw [shownZ_len]
  exact h3
section
variable {K : PySem.W.Frag} {H : Hp} {Q : VK} {E : XK} {n : Nat}
theorem ap_alikeZ {a b : Addr} {z : List Int} (h1 : SqT K H a (vI z)) (h2 : SqT K H b (vI z)) (hs : Sm z) (h3 : z.length ≤ 3) (hn : 1 < n) (k : ∀ H', Kp [] H H' → Q (.bl true) H') : spAlike K n [.ref a, .ref b] H Q E :=
  ap_alike (dInts z) (Td.vI h1).dp (Td.vI h2).dp (dInts_s z) (by rw [dInts_d]; exact hn) (by have := dInts_w hs; omega) k
theorem ap_alikeR {a b : Addr} {xs ys : List V} {zs : List (List Int)} (h1 : SqL K H a xs) (t1 : TdA K H xs (zs.map dInts)) (h2 : SqL K H b ys) (t2 : TdA K H ys (zs.map dInts)) (hs : ∀ z ∈ zs, Sm z ∧ z.length ≤ 3) (h3 : zs.length ≤ 300) (hn : 2 < n) (k : ∀ H', Kp [] H H' → Q (.bl true) H') : spAlike K n [.ref a, .ref b] H Q E :=
  ap_alike (dRows zs) (.lst h1 t1.dp) (.lst h2 t2.dp) (dRows_s zs) (by have := dRows_d zs; omega) (by have := dRows_w hs; omega) k
end
theorem vI_app (a b : List Int) : vI (a ++ b) = vI a ++ vI b := List.map_append
theorem atI_end {α : Type} {xs : List α} {n : Nat} (h : xs.length = n + 1) : atI xs (-1) = xs[n]? := by
  unfold atI
  have e : ixN xs.length (-1) = some n := by
    unfold ixN
    rw [if_neg (by decide), if_pos (by omega)]
    congr 1
    omega
  rw [e]
  rfl
def spLaw (K : PySem.W.Frag) : Sp := fun vs H Q _ => ∃ (a : Addr) (ns : List Int), vs = [.ref a] ∧ SqL K H a (vI ns) ∧ ns.length ≤ 63 ∧ ∀ H', Q (.bl true) H'
end WZ

/-! what the top has written, as the walks want it -/
namespace WZ
open PySem PySem.Spec PyProof.Rows L2 StX
section
variable {P : Program} {w : World} {K : PySem.W.Frag} {mg : Str → Option Value} {base : Heap} {f : Addr} {fd : FuncData} {h : Heap}
theorem fn_none {k : Nat} {ps : List Str} {sp : Sp} (no : ∀ vs H Q E, ¬ sp vs H Q E) : FnOk P w K mg base CX0 k f fd ps sp :=
  ⟨fun vs H Q E h => absurd h (no vs H Q E), fun A outer s H args us vs Q E _ _ _ _ h => absurd h (no vs H Q E)⟩
theorem cal_of {x q : Str} {st : Stmt} {k : Nat} {ps : List Str} {sp : Sp} (F : Fun K x q st f fd) (m : mg x = some (.ref f)) (b : Binds K fd ps []) (ok : FnOk P w K mg base CX0 k f fd ps sp) : Cal CX0 P w K mg base k x sp := ⟨f, fd, ps, ok, m, F.kp, b⟩
theorem kt_of {a : Addr} {its : Array Value} {n : Nat} {sl : Array (Option Value)} {od : Option Addr} {xs : List V} (l : K.lookup a = some ⟨.type "tuple", od, .seq its n, sl⟩) (hz : its.size ≤ 1000) (v : Vals xs its.toList) : KT K a xs :=
  fun H => .inr ⟨_, its, n, l, rfl, rfl, Nat.le_trans hz (by decide), v⟩
theorem kt_ints4 {a : Addr} {i1 i2 i3 i4 : Int} {t1 t2 t3 t4 n : Nat} {sl : Array (Option Value)} {od : Option Addr} (l : K.lookup a = some ⟨.type "tuple", od, .seq #[.int i1 t1, .int i2 t2, .int i3 t3, .int i4 t4] n, sl⟩) : KT K a [.int i1, .int i2, .int i3, .int i4] :=
  kt_of l (Nat.le_of_ble_eq_true rfl) (.cons ⟨_, rfl⟩ (.cons ⟨_, rfl⟩ (.cons ⟨_, rfl⟩ (.cons ⟨_, rfl⟩ .nil))))
theorem kt_strs3 {a : Addr} {i1 i2 i3 : Str} {t1 t2 t3 n : Nat} {sl : Array (Option Value)} {od : Option Addr} (l : K.lookup a = some ⟨.type "tuple", od, .seq #[.str i1 t1, .str i2 t2, .str i3 t3] n, sl⟩) : KT K a [.str i1, .str i2, .str i3] :=
  kt_of l (Nat.le_of_ble_eq_true rfl) (.cons ⟨_, rfl⟩ (.cons ⟨_, rfl⟩ (.cons ⟨_, rfl⟩ .nil)))
theorem gc_int (X : K.In h) (G : h.Ns mainGlobals mg) {x : Str} {i : Int} {t : Nat} (a : PySem.W.nsIn K mainGlobals x = some (some (.int i t))) : Gc mg x (.int i) := ⟨_, PySem.W.mg_of X G a, _, rfl⟩
theorem gc_ref (X : K.In h) (G : h.Ns mainGlobals mg) {x : Str} {i : Addr} (a : PySem.W.nsIn K mainGlobals x = some (some (.ref i))) : Gc mg x (.ref i) := ⟨_, PySem.W.mg_of X G a, rfl⟩
theorem taken_of {a : Addr} {n t1 t2 t3 u1 u2 u3 v1 v2 v3 : Nat} (l : K.lookup a = some ⟨.type "dict", none, .dict #[⟨PyData.keyHash w.params "on", .str "on" t1, .int 1 u1⟩, ⟨PyData.keyHash w.params "back", .str "back" t2, .int (-1) u2⟩, ⟨PyData.keyHash w.params "none", .str "none" t3, .int 0 u3⟩] n, #[]⟩)
    (n1 : PySem.W.nsIn K a "on" = some (some (.int 1 v1))) (n2 : PySem.W.nsIn K a "back" = some (some (.int (-1) v2))) (n3 : PySem.W.nsIn K a "none" = some (some (.int 0 v3))) : TakenT K w a := by
  have kl : PySem.W.KeysLit w.params (#[⟨PyData.keyHash w.params "on", .str "on" t1, .int 1 u1⟩, ⟨PyData.keyHash w.params "back", .str "back" t2, .int (-1) u2⟩, ⟨PyData.keyHash w.params "none", .str "none" t3, .int 0 u3⟩] : Array DictEntry).toList :=
    ⟨⟨_, _, rfl, rfl⟩, ⟨_, _, rfl, rfl⟩, ⟨_, _, rfl, rfl⟩, trivial⟩
  intro k
  cases k with
  | on => exact ⟨_, _, _, l, kl, n1, _, rfl⟩
  | back => exact ⟨_, _, _, l, kl, n2, _, rfl⟩
  | no => exact ⟨_, _, _, l, kl, n3, _, rfl⟩
theorem no_alike : ∀ vs H Q E, ¬ spAlike K 0 vs H Q E := fun vs H Q E h => by
  obtain ⟨_, _, _, _, _, _, _, h1, _⟩ := h
  omega
theorem no_move : ∀ vs H Q E, ¬ spMove K 0 vs H Q E := fun vs H Q E h => by
  obtain ⟨_, _, _, _, _, _, _, _, _, _, _, _, h1, h2, _⟩ := h
  omega
theorem no_do : ∀ vs H Q E, ¬ spDo K 0 vs H Q E := fun vs H Q E h => by
  obtain ⟨_, _, _, _, _, _, _, _, _, _, _, _, _, _, h1, _⟩ := h
  omega
theorem no_ran : ∀ vs H Q E, ¬ spRan K 0 vs H Q E := fun vs H Q E h => by
  obtain ⟨_, _, _, _, _, _, _, _, _, _, _, _, _, _, _, _, h1, _⟩ := h
  omega
end
theorem walk {x : Str} {l : PySem.W.OpenLaw} {q : Program} {loose : List Str} {XP : (Str → Option Value) → Heap → Prop} {YP : World → Heap → Prop} {d : DefRec} {K : Params → PySem.W.Frag} {k : Nat} (hn : l.most = some 63) (hdf : d.params.defaults = []) (hk : Room k callerA)
    (hY : ∀ (w : World) (h : Heap), YP w h → (K w.params).In h)
    (F : ∀ (w : World) (mg : Str → Option Value) (fa : Addr) (h : Heap), (K w.params).In h → h.Ns mainGlobals mg → mg d.name = some (.ref fa) →
      ∃ fd : FuncData, (∀ (s : Shared) (u : Value), BindsTo s fd ⟨[u], []⟩ [(x, u)]) ∧ ∀ base : Heap, (K w.params).In base → base.Ns mainGlobals mg → FnOk l.prog w (K w.params) mg base CX0 k fa fd [x] (spLaw (K w.params))) :
    PySem.W.WalkO q loose XP YP l.row.toRowW d [] (fun f vs => PySem.call f vs) :=
  L2.walk_of (n := 63) (k := k) (x := x) (CX := fun _ => CX0) (sp := fun w => spLaw (K w.params)) hn (by decide) hdf hk hY F (fun _ _ a ns hl _ hS => ⟨a, ns, rfl, hS, hl, fun _ => rfl⟩) fun _ _ _ _ _ z => z
end WZ

/-! a comprehension with two fors -/
namespace WZ
open PySem PySem.Spec PyProof.Rows L2 StX
def xIn (g1 : TG) (tt1 : TT) (te : TE) (vs1 : List Nat) (σ2 : L2.St) (D : Addr) (Nx : Hp → Prop) : It → Hp → Prop := fun J1 H4 => ∃ W1 : Nat → Nat → Hp → Prop, (∃ m, W1 0 m H4) ∧ ∀ j k H, W1 j k H →
  (J1.stop j H ∧ Nx H) ∨ (J1.go j H ∧ ∃ Nx1 : Hp → Prop, (∀ H', Nx1 H' → ∃ k', k' < k ∧ W1 (j + 1) k' H') ∧ ∀ x H', J1.yld j H x H' → g1 x (wipe σ2 vs1) H' (xTurn tt1 te vs1 σ2 D Nx1))
def xTurn2 (tt : TT) (wi1 : TI) (g1 : TG) (tt1 : TT) (te : TE) (vs vs1 : List Nat) (σ : L2.St) (D : Addr) (Nx : Hp → Prop) : L2.St → Hp → Prop := fun σ2 H2 => wipe σ2 vs = wipe σ vs ∧ tt σ2 H2 (cIf (fun H3 => wi1 σ2 H3 (xIn g1 tt1 te vs1 σ2 D Nx)) Nx)
def xLc2 (g : TG) (tt : TT) (wi1 : TI) (g1 : TG) (tt1 : TT) (te : TE) (vs vs1 : List Nat) (σ : L2.St) (Q : VK) : It → Hp → Prop := fun J H1 => ∀ D, H1 D = none → ∃ W : Nat → Nat → Hp → Prop, (∃ m, W 0 m (upd H1 D (.lst []))) ∧ ∀ i m H, W i m H →
  (J.stop i H ∧ Q (.ref D) H) ∨ (J.go i H ∧ ∃ Nx : Hp → Prop, (∀ H', Nx H' → ∃ m', m' < m ∧ W (i + 1) m' H') ∧ ∀ x H', J.yld i H x H' → g x (wipe σ vs) H' (xTurn2 tt wi1 g1 tt1 te vs vs1 σ D Nx))
section
variable {K : PySem.W.Frag} {σ σ2 : L2.St} {H : Hp} {Q : VK} {te : TE} {tt tt1 : TT} {wi wi1 : TI} {g g1 : TG} {vs vs1 : List Nat} {D : Addr} {Nx : Hp → Prop}
theorem g_lc2 (k : wi σ H (xLc2 g tt wi1 g1 tt1 te vs vs1 σ Q)) : tLc2 wi g tt wi1 g1 tt1 te vs vs1 σ H Q := k
theorem g_xTurn2 (h : wipe σ2 vs = wipe σ vs) (k : tt σ2 H (cIf (fun H3 => wi1 σ2 H3 (xIn g1 tt1 te vs1 σ2 D Nx)) Nx)) : xTurn2 tt wi1 g1 tt1 te vs vs1 σ D Nx σ2 H := ⟨h, k⟩
theorem g_comp2L {a : Addr} {xs : List V} (G : Addr → Nat → List V → Hp → Prop) (h0 : ∀ D H1, H D = none → Kp [] H H1 → G D 0 [] H1) (hl : ∀ D i acc H', i ≤ xs.length → G D i acc H' → SqL K H' a xs)
    (hs : ∀ D i x acc H', H D = none → xs[i]? = some x → H' D = some (.lst acc) → G D i acc H' → g x (wipe σ vs) H' (xTurn2 tt wi1 g1 tt1 te vs vs1 σ D (accP D (G D (i + 1)))))
    (hd : ∀ D acc H', H D = none → H' D = some (.lst acc) → G D xs.length acc H' → Q (.ref D) H') : xLc2 g tt wi1 g1 tt1 te vs vs1 σ Q (Itl K a) H := by
  intro D hD
  refine ⟨fun i m H => m = xs.length - i ∧ i ≤ xs.length ∧ accP D (G D i) H, ⟨xs.length, by simp, Nat.zero_le _, [], upd_same, h0 D _ hD (Kp.new hD)⟩, ?_⟩
  rintro i m H ⟨rfl, hi, acc, e, p⟩
  have q := hl D i acc H hi p
  by_cases hlt : i < xs.length
  · refine .inr ⟨⟨xs, xs[i], q, by simp [hlt]⟩, accP D (G D (i + 1)), fun H' p' => ⟨xs.length - (i + 1), by omega, rfl, hlt, p'⟩, fun x H' y => ?_⟩
    obtain ⟨e', y⟩ := y
    subst e'
    exact hs D i x acc _ hD (y xs q) e p
  · have e' : i = xs.length := by omega
    subst e'
    exact .inl ⟨⟨xs, q, Nat.le_refl _⟩, hd D acc H hD e p⟩
theorem g_inR {lo : Int} {n : Nat} (I : Nat → List V → Hp → Prop) (h0 : accP D (I 0) H) (hs : ∀ j acc H', j < n → H' D = some (.lst acc) → I j acc H' → g1 (.int (lo + j)) (wipe σ2 vs1) H' (xTurn tt1 te vs1 σ2 D (accP D (I (j + 1)))))
    (hd : ∀ acc H', H' D = some (.lst acc) → I n acc H' → Nx H') : xIn g1 tt1 te vs1 σ2 D Nx (Itr lo n) H := by
  refine ⟨fun i m H => m = n - i ∧ i ≤ n ∧ accP D (I i) H, ⟨n, by simp, Nat.zero_le _, h0⟩, ?_⟩
  rintro i m H ⟨rfl, hi, acc, e, p⟩
  by_cases hlt : i < n
  · refine .inr ⟨hlt, accP D (I (i + 1)), fun H' p' => ⟨n - (i + 1), by omega, rfl, hlt, p'⟩, fun x H' y => ?_⟩
    obtain ⟨e', y⟩ := y
    subst e' y
    exact hs i acc _ hlt e p
  · have e' : i = n := by omega
    subst e'
    exact .inl ⟨Nat.le_refl _, hd acc H e p⟩
end
/-! all rows of sizes -/
def ext (b : Nat) (r : List Int) : List (List Int) := (List.range (b - 1)).map fun (j : Nat) => r ++ [2 + (j : Int)]
def rowsZ (b : Nat) : Nat → List (List Int)
  | 0 => [[]]
  | n + 1 => (rowsZ b n).flatMap (ext b)
theorem flat_take {α β : Type} (f : α → List β) {xs : List α} {i : Nat} {x : α} (h : xs[i]? = some x) : (xs.take (i + 1)).flatMap f = (xs.take i).flatMap f ++ f x := by
  rw [List.take_add_one, h, List.flatMap_append]
  simp
theorem rowsZ_mem {b : Nat} : ∀ {n : Nat} {r : List Int}, r ∈ rowsZ b n → r.length = n ∧ ∀ x ∈ r, 2 ≤ x ∧ x ≤ b
  | 0, r, h => by
    rw [List.mem_singleton.mp h]
    exact ⟨rfl, fun _ z => by cases z⟩
  | n + 1, r, h => by
    obtain ⟨q, hq, h2⟩ := List.mem_flatMap.mp h
    obtain ⟨j, hj, rfl⟩ := List.mem_map.mp h2
    obtain ⟨h3, h4⟩ := rowsZ_mem hq
    refine ⟨by simp [h3], fun x hx => ?_⟩
    rcases List.mem_append.mp hx with z | z
    · exact h4 x z
    · rw [List.mem_singleton.mp z]
      have := List.mem_range.mp hj
      omega
theorem rowsZ_len (b : Nat) : ∀ n : Nat, (rowsZ b n).length = (b - 1) ^ n
  | 0 => rfl
  | n + 1 => by
    show ((rowsZ b n).flatMap (ext b)).length = _
    rw [List.length_flatMap]
    have e : ((rowsZ b n).map fun r => (ext b r).length) = List.replicate (rowsZ b n).length (b - 1) := by
      rw [List.eq_replicate_iff]
      refine ⟨by simp, fun x hx => ?_⟩
      obtain ⟨r, _, rfl⟩ := List.mem_map.mp hx
      simp [ext]
    rw [e, List.sum_replicate_nat, rowsZ_len b n, Nat.pow_succ]
end WZ

/-! all sizes up to a bound; showings that are asked about -/
namespace WZ
open PySem PySem.Spec PyProof.Rows L2 StX
def isIntD : PyData → Bool
  | .int _ => true
  | _ => false
def showD : PyData → Bool
  | .tuple ds => ds.all isIntD
  | _ => false
def fitZ (b n : Nat) (l : List Stp) (d : PyData) : List (List Int) := (rowsZ b n).filter fun r => PyData.eqv (dInts (shownZ r l)) d
def spSizesTo (K : PySem.W.Frag) : Sp := fun vs H Q _ => ∃ (n b : Nat), vs = [.int n, .int b] ∧ 2 ≤ b ∧ b ≤ 1000 ∧ (∀ i, i ≤ n → (rowsZ b i).length ≤ 100000) ∧ n ≤ 1000 ∧
  ∀ (p : Addr) (ws : List V) (H' : Hp), H p = none → Kp [] H H' → H' p = some (.lst ws) → TdA K H' ws ((rowsZ b n).map dInts) → Q (.ref p) H'
def spIsShowing (K : PySem.W.Frag) : Sp := fun vs H Q _ => ∃ (v : V) (d : PyData), vs = [v] ∧ Dp K H v d ∧ Sz1 d ∧ ∀ H', Kp [] H H' → Q (.bl (showD d)) H'
def spFitting (K : PySem.W.Frag) (C : Addr) : Sp := fun vs H Q _ => ∃ (a : Addr) (n b : Nat) (l : List Stp) (v : V) (d : PyData), vs = [.ref a, v, .int b] ∧ Scr K C H a n l ∧ Dp K H v d ∧ Sz1 d ∧ SeqAt.shaped d = true ∧ 2 ≤ b ∧ b ≤ 12 ∧ (∀ i, i ≤ n → (rowsZ b i).length ≤ 100000) ∧
  ∀ (p : Addr) (ws : List V) (H' : Hp), H p = none → Kp [] H H' → H' p = some (.lst ws) → TdA K H' ws ((if showD d then fitZ b n l d else []).map dInts) → Q (.ref p) H'
section
variable {K : PySem.W.Frag} {C : Addr} {H : Hp} {Q : VK} {E : XK}
theorem ap_sizesTo {n b : Nat} (h1 : 2 ≤ b) (h2 : b ≤ 1000) (h3 : ∀ i, i ≤ n → (rowsZ b i).length ≤ 100000) (h4 : n ≤ 1000) (k : ∀ (p : Addr) (ws : List V) (H' : Hp), H p = none → Kp [] H H' → H' p = some (.lst ws) → TdA K H' ws ((rowsZ b n).map dInts) → Q (.ref p) H') : spSizesTo K [.int n, .int b] H Q E := ⟨n, b, rfl, h1, h2, h3, h4, k⟩
theorem ap_isShowing {v : V} {d : PyData} (h : Dp K H v d) (z : Sz1 d) (k : ∀ H', Kp [] H H' → Q (.bl (showD d)) H') : spIsShowing K [v] H Q E := ⟨v, d, rfl, h, z, k⟩
theorem ap_fitting {a : Addr} {n b : Nat} {l : List Stp} {v : V} {d : PyData} (h : Scr K C H a n l) (hd : Dp K H v d) (z : Sz1 d) (s : SeqAt.shaped d = true) (h1 : 2 ≤ b) (h2 : b ≤ 12) (h3 : ∀ i, i ≤ n → (rowsZ b i).length ≤ 100000)
    (k : ∀ (p : Addr) (ws : List V) (H' : Hp), H p = none → Kp [] H H' → H' p = some (.lst ws) → TdA K H' ws ((if showD d then fitZ b n l d else []).map dInts) → Q (.ref p) H') : spFitting K C [.ref a, v, .int b] H Q E := ⟨a, n, b, l, v, d, rfl, h, hd, z, s, h1, h2, h3, k⟩
end
theorem rows_small {b n : Nat} (hb : b ≤ 12) (hn : n ≤ 3) : ∀ i, i ≤ n → (rowsZ b i).length ≤ 100000 := fun i hi => by
  rw [rowsZ_len]
  have h1 : (b - 1) ^ i ≤ 11 ^ i := Nat.pow_le_pow_left (by omega) i
  have h2 : (11 : Nat) ^ i ≤ 11 ^ 3 := Nat.pow_le_pow_right (by decide) (by omega)
  have h3 : (11 : Nat) ^ 3 = 1331 := by decide
  omega
theorem SzOk.row {b n : Nat} (hb : b ≤ 1000) {r : List Int} (h : r ∈ rowsZ b n) : SzOk r ∧ r.length = n := by
  obtain ⟨h1, h2⟩ := rowsZ_mem h
  refine ⟨fun x hx => ?_, h1⟩
  obtain ⟨h3, h4⟩ := h2 x hx
  have : (10 : Int) ^ 30 = 1000000000000000000000000000000 := by decide
  omega
theorem eqv_len : ∀ {xs ys : List PyData}, xs.length ≠ ys.length → PyData.eqvAll xs ys = false
  | [], [], h => absurd rfl h
  | [], _ :: _, _ => rfl
  | _ :: _, [], _ => rfl
  | x :: xs, y :: ys, h => by
    rw [PyData.eqvAll, eqv_len (xs := xs) (ys := ys) (by simpa using h), Bool.and_false]
theorem showD_ints (z : List Int) : showD (dInts z) = true := by
  simp only [showD, dInts, List.all_map, List.all_eq_true]
  intro x _
  rfl
theorem filter_take {α : Type} {f : α → Bool} {xs : List α} {i : Nat} {x : α} (h : xs[i]? = some x) : (xs.take (i + 1)).filter f = (xs.take i).filter f ++ (if f x then [x] else []) := by
  rw [List.take_add_one, h, List.filter_append]
  cases hf : f x <;> simp [hf]
theorem ext_take {r : List Int} (j : Nat) : ((List.range (j + 1)).map fun (j : Nat) => r ++ [2 + (j : Int)]) = ((List.range j).map fun (j : Nat) => r ++ [2 + (j : Int)]) ++ [r ++ [2 + (j : Int)]] := by
  rw [List.range_succ, List.map_append]
  rfl
theorem fit_len {b n : Nat} {l : List Stp} {z : List Int} (hb : b ≤ 1000) (hz : z.length ≠ n) : fitZ b n l (dInts z) = [] := by
  unfold fitZ
  rw [List.filter_eq_nil_iff]
  intro r hr
  have h1 := (SzOk.row hb hr).2
  have h2 : PyData.eqv (dInts (shownZ r l)) (dInts z) = false := by
    show PyData.eqvAll _ _ = false
    refine eqv_len ?_
    rw [List.length_map, List.length_map, shownZ_len, h1]
    exact Ne.symm hz
  rw [h2]
  decide
theorem fit_mem {b n : Nat} {l : List Stp} {d : PyData} (hb : b ≤ 1000) (hn : n ≤ 3) : ∀ z ∈ fitZ b n l d, Sm z ∧ z.length ≤ 3 := fun z hz => by
  have h := (List.mem_filter.mp hz).1
  obtain ⟨h1, h2⟩ := rowsZ_mem h
  refine ⟨fun x hx => ?_, by omega⟩
  obtain ⟨h3, h4⟩ := h2 x hx
  have h5 : ((2 ^ 100 : Nat) : Int) = 1267650600228229401496703205376 := by decide
  omega
theorem part_len {b i j : Nat} {xs : List (List Int)} {r : List Int} (h : xs[i]? = some r) (hj : j ≤ b - 1) : ((xs.take i).flatMap (ext b) ++ ((List.range j).map fun (j : Nat) => r ++ [2 + (j : Int)])).length ≤ (xs.flatMap (ext b)).length := by
  have e : xs.flatMap (ext b) = (xs.take (i + 1)).flatMap (ext b) ++ (xs.drop (i + 1)).flatMap (ext b) := by
    rw [← List.flatMap_append, List.take_append_drop]
  rw [e, flat_take (ext b) h]
  have hl : (ext b r).length = b - 1 := by simp [ext]
  simp only [List.length_append, List.length_map, List.length_range, hl]
  omega
end WZ

/-! methods, properties and an own == by their contracts -/
namespace WZ
open PySem PySem.Spec PyProof.Rows L2 StX
/-- a method -/
structure Met (CX : CXT) (P : Program) (w : World) (K : PySem.W.Frag) (mg : Str → Option Value) (base : Heap) (k : Nat) (C : Addr) (m : Str) (sp : Sp) : Prop where
  ex : ∃ (f : Addr) (fd : FuncData) (ps : List Str), FnOk P w K mg base CX k f fd ps sp ∧ Meth K C m f ∧ Cls K C ∧ Binds K fd ps []
/-- a property -/
structure Prp (CX : CXT) (P : Program) (w : World) (K : PySem.W.Frag) (mg : Str → Option Value) (base : Heap) (k : Nat) (C : Addr) (m : Str) (sp : Sp) : Prop where
  ex : ∃ (p g : Addr) (fd : FuncData) (ps : List Str), FnOk P w K mg base CX k g fd ps sp ∧ PropOf K C m p g ∧ Cls K C ∧ Binds K fd ps []
/-- an own == -/
structure Eqs (CX : CXT) (P : Program) (w : World) (K : PySem.W.Frag) (mg : Str → Option Value) (base : Heap) (k : Nat) (C : Addr) (sp : Sp) : Prop where
  ex : ∃ (f : Addr) (fd : FuncData) (ps : List Str), FnOk P w K mg base CX k f fd ps sp ∧ PySem.W.findIn K (.ref C) "__eq__" = some (some (.ref f)) ∧ PySem.W.isFn K (.ref f) = true ∧ Binds K fd ps []
/-- an own __len__ -/
structure Lns (CX : CXT) (P : Program) (w : World) (K : PySem.W.Frag) (mg : Str → Option Value) (base : Heap) (k : Nat) (C : Addr) (sp : Sp) : Prop where
  ex : ∃ (f : Addr) (fd : FuncData) (ps : List Str), FnOk P w K mg base CX k f fd ps sp ∧ PySem.W.findIn K (.ref C) "__len__" = some (some (.ref f)) ∧ PySem.W.isFn K (.ref f) = true ∧ Binds K fd ps []
def rLenI (C : Addr) (sp : Sp) (E : XK) : List V → Hp → VK → Prop := fun xs H Q => ∃ a dx fs, xs = [.ref a] ∧ H a = some (.ins C dx fs) ∧ sp [.ref a] H (fun v H' => ∃ i : Int, v = .int i ∧ 0 ≤ i ∧ i < 2 ^ 63 ∧ Q (.int i) H') E
def rEqIn (C : Addr) (sp : Sp) (E : XK) : R2 := fun x y H Q => ∃ a b dx dy fs gs, x = .ref a ∧ y = .ref b ∧ H a = some (.ins C dx fs) ∧ H b = some (.ins C dy gs) ∧ sp [.ref a, .ref b] H Q E
section
variable {X : Cx} {k j : Nat} {m f : Str} {sp : Sp} {p pos apos : Pos} {e o : Expr} {es : List Expr} {ta : TE} {t : TA} {C : Addr}
theorem pe_me (c : Met CX0 X.prog X.w X.K X.mg X.base k C m sp) (hr : Room j X.A) (hk : k ≤ j) (he : PE X o ta) (ha : PA X (e :: es) t) {pl : Sem Bool}
    (hst : starEach (e :: es) X.env = (false, eval e X.env) :: starEach es X.env := by rfl) (hpl : (backTo pos (starEach es X.env)).any (·.1) = false := by rfl)
    (ht : eval (.Call (.Attribute o m apos) (e :: es) [] pos) X.env = (do
      let ov ← eval o X.env
      standAt apos.atName
      let (f, first) ← holding [ov] (getMethod ov m pl)
      callWith pos f first (backTo pos (starEach (e :: es) X.env)) (backToKw pos (keywordEach [] X.env))) := by rfl) : PE X (.Call (.Attribute o m apos) (e :: es) [] pos) (tMeth C m sp [] E0 ta t) := by
  obtain ⟨f, fd, ps, F, hm, cl, b⟩ := c.ex
  exact pe_meth he cl hm F (hr.mono hk) b .nil pass0 ha hst hpl ht
theorem pe_me0 (c : Met CX0 X.prog X.w X.K X.mg X.base k C m sp) (hr : Room j X.A) (hk : k ≤ j) (he : PE X o ta) {pl : Sem Bool}
    (ht : eval (.Call (.Attribute o m apos) [] [] pos) X.env = (do
      let ov ← eval o X.env
      standAt apos.atName
      let (f, first) ← holding [ov] (getMethod ov m pl)
      callWith pos f first (backTo pos (starEach [] X.env)) (backToKw pos (keywordEach [] X.env))) := by rfl) : PE X (.Call (.Attribute o m apos) [] [] pos) (tMeth C m sp [] E0 ta tNil) := by
  obtain ⟨f, fd, ps, F, hm, cl, b⟩ := c.ex
  exact pe_meth0 he cl hm F (hr.mono hk) b .nil pass0 ht
theorem pe_pr (c : Prp CX0 X.prog X.w X.K X.mg X.base k C m sp) (hr : Room j X.A) (hk : k + 1 ≤ j) (he : PE X e ta) (hab : attributeBase e m X.env (eval e X.env) = eval e X.env) : PE X (.Attribute e m pos) (tProp C sp [] E0 ta) := by
  obtain ⟨p, g, fd, ps, F, hp, cl, b⟩ := c.ex
  exact pe_prop he cl hp F (hr.mono hk) b .nil pass0 hab
theorem op_eqI (c : Eqs CX0 X.prog X.w X.K X.mg X.base k C sp) (hr : Room j X.A) (hk : k ≤ j) : OpR X (compareOp .Eq) (rEqIn C sp E0) := by
  obtain ⟨f, fd, ps, F, hs, hf, hb⟩ := c.ex
  intro pins s σ H x y u v Q I rx ry h
  obtain ⟨a, b, dx, dy, fs, gs, rfl, rfl, ha, hb', hsp⟩ := h
  cases rx
  cases ry
  obtain ⟨mA, J, _⟩ := ins_get I.hok ha
  obtain ⟨mB, J', _⟩ := ins_get I.hok hb'
  obtain ⟨od, J, _⟩ := J.look
  obtain ⟨od', J', _⟩ := J'.look
  obtain ⟨m, hF⟩ := I.fr
  have rm := hr.mono hk
  show wpAny (model X.prog X.w) X.A (richCompare .Eq (.ref a) (.ref b)) (EP X pins σ Q) X.xe s
  refine PySem.W.cmp_K (op := .Eq) (tb := .ref C) rm.units0 hF I.ok.mod.kin J J'.type (by simp [PySem.W.notFirst]) hs hf ?_
  have hl := F.len _ _ _ _ hsp
  have r2 : Vals [V.ref a, V.ref b] [Value.ref a, Value.ref b] := .cons rfl (.cons rfl .nil)
  refine wpAny_call (codeAny_mono (F.run X.A X.stack s H ⟨[.ref a, .ref b], []⟩ [.ref a, .ref b] [.ref a, .ref b] _ E0 rm I.env0 (by
    have := hb s [.ref a, .ref b] I.kIn (by simpa using hl)
    simpa using this) r2 hsp) fun r s' hq => ?_)
  cases r with
  | error e => exact pass0 pins σ H s e s' I hq
  | ok fl =>
    cases fl with
    | ret w =>
      obtain ⟨z, H', I', rz, q⟩ := I.after hq
      cases z with
      | non => cases rz; exact ⟨.non, H', I', rfl, q⟩
      | bl b => cases rz; exact ⟨.bl b, H', I', rfl, q⟩
      | int i => obtain ⟨t, rfl⟩ := rz; exact ⟨.int i, H', I', ⟨t, rfl⟩, q⟩
      | str i => obtain ⟨t, rfl⟩ := rz; exact ⟨.str i, H', I', ⟨t, rfl⟩, q⟩
      | byt i => obtain ⟨t, rfl⟩ := rz; exact ⟨.byt i, H', I', ⟨t, rfl⟩, q⟩
      | flt i => obtain ⟨t, rfl⟩ := rz; exact ⟨.flt i, H', I', ⟨t, rfl⟩, q⟩
      | ref b => cases rz; exact ⟨.ref b, H', I', rfl, q⟩
      | ty b => cases rz; exact ⟨.ty b, H', I', rfl, q⟩
    | next => exact False.elim hq
    | brk => exact False.elim hq
    | cont => exact False.elim hq
theorem cr_lenI (c : Lns CX0 X.prog X.w X.K X.mg X.base k C sp) (hr : Room j X.A) (hk : k + 1 ≤ j) : CallR X (.builtin "len") (rLenI C sp E0) := by
  obtain ⟨f, fd, ps, F, hs, hf, hb⟩ := c.ex
  intro pins s σ H xs us Q I r h
  obtain ⟨a, dx, fs, rfl, ha, hsp⟩ := h
  obtain ⟨u, rfl, ru⟩ := vals1 r
  obtain rfl : u = Value.ref a := ru
  obtain ⟨mA, J, _⟩ := ins_get I.hok ha
  obtain ⟨od, J, _⟩ := J.look
  obtain ⟨m, hF⟩ := I.fr
  have rm : Room k X.A.in1 := (hr.mono hk).in1
  refine PySem.W.len_K hF I.ok.mod.kin J hs hf ?_
  have hl := F.len _ _ _ _ hsp
  have r2 : Vals [V.ref a] [Value.ref a] := .cons rfl .nil
  have e0 : Env0 X.prog X.w X.K X.mg X.base X.A.in1 X.stack s H := by
    have e := I.env0
    exact ⟨e.frames, e.mod, e.bs, e.bsz, e.funs, e.frf, e.hok, e.bare⟩
  refine wpAny_call (codeAny_mono (F.run X.A.in1 X.stack s H ⟨[.ref a], []⟩ [.ref a] [.ref a] _ E0 rm e0 (by
    have := hb s [.ref a] I.kIn (by simpa using hl)
    simpa using this) r2 hsp) fun r s' hq => ?_)
  cases r with
  | error e => exact pass0 pins σ H s e s' I hq
  | ok fl =>
    cases fl with
    | ret w =>
      obtain ⟨z, H', I', rz, i, rfl, h0, h1, q⟩ := I.after hq
      obtain ⟨t, rfl⟩ := rz
      exact ⟨⟨h0, h1⟩, .int i, H', I'.tok _, ⟨_, rfl⟩, q⟩
    | next => exact False.elim hq
    | brk => exact False.elim hq
    | cont => exact False.elim hq
end
section
variable {K : PySem.W.Frag} {σ : L2.St} {H : Hp} {Q : VK} {ta : TE} {t : TA} {sp : Sp} {E : XK} {C : Addr} {m : Str}
def xMe (C : Addr) (m : Str) (sp : Sp) (E : XK) (t : TA) (σ : L2.St) (Q : VK) : VK := fun x H1 => ∃ a dx fs, x = .ref a ∧ H1 a = some (.ins C dx fs) ∧ fs.lookup m = none ∧ t σ H1 fun vs H2 => sp (x :: vs) H2 Q E
theorem g_me (k : ta σ H (xMe C m sp E t σ Q)) : tMeth C m sp [] E ta t σ H Q := by
  have e : (fun (x : V) (H1 : Hp) => ∃ a dx fs, x = .ref a ∧ H1 a = some (.ins C dx fs) ∧ fs.lookup m = Option.none ∧ t σ H1 fun vs H2 => sp (x :: (vs ++ [])) H2 Q E) = xMe C m sp E t σ Q := by
    funext x H1
    simp only [List.append_nil, xMe]
  show ta σ H _
  rw [e]
  exact k
theorem g_xMe {a dx : Addr} {fs : List (Str × V)} (h : H a = some (.ins C dx fs)) (n : fs.lookup m = none) (k : t σ H fun vs H2 => sp (.ref a :: vs) H2 Q E) : xMe C m sp E t σ Q (.ref a) H := ⟨a, dx, fs, rfl, h, n, k⟩
def xPr (C : Addr) (sp : Sp) (E : XK) (Q : VK) : VK := fun x H1 => ∃ a dx fs, x = .ref a ∧ H1 a = some (.ins C dx fs) ∧ sp [.ref a] H1 Q E
theorem g_pr (k : ta σ H (xPr C sp E Q)) : tProp C sp [] E ta σ H Q := k
theorem g_xPr {a dx : Addr} {fs : List (Str × V)} (h : H a = some (.ins C dx fs)) (k : sp [.ref a] H Q E) : xPr C sp E Q (.ref a) H := ⟨a, dx, fs, rfl, h, k⟩
theorem g_rEqIn {a b dx dy : Addr} {fs gs : List (Str × V)} (h1 : H a = some (.ins C dx fs)) (h2 : H b = some (.ins C dy gs)) (k : sp [.ref a, .ref b] H Q E) : rEqIn C sp E (.ref a) (.ref b) H Q := ⟨a, b, dx, dy, fs, gs, rfl, rfl, h1, h2, k⟩
theorem g_lenI {a dx : Addr} {fs : List (Str × V)} (h : H a = some (.ins C dx fs)) (k : sp [.ref a] H (fun v H' => ∃ i : Int, v = .int i ∧ 0 ≤ i ∧ i < 2 ^ 63 ∧ Q (.int i) H') E) : rLenI C sp E [.ref a] H Q := ⟨a, dx, fs, rfl, h, k⟩
end
end WZ

/-! walks -/
namespace WZ
open PySem PySem.Spec PyProof.Rows L2 StX
structure WkT (K : PySem.W.Frag) (C : Addr) : Prop where
  cl : Cls K C
  nW : NoAttr K C "wide"
  nR : NoAttr K C "rows"
  nS : NoAttr K C "steps_done"
  nU : NoAttr K C "undone"
/-- no method's name is a field -/
def NoM (fs : List (Str × V)) : Prop := fs.lookup ("go" : Str) = none ∧ fs.lookup ("do" : Str) = none ∧ fs.lookup ("undo" : Str) = none ∧ fs.lookup ("redo" : Str) = none ∧ fs.lookup ("script" : Str) = none
/-- a Walk stands at a, its own lists at the rest of ps -/
structure Wlk (K : PySem.W.Frag) (C : Addr) (H : Hp) (a : Addr) (ps : List Addr) (s : List Int) (log gone : List Stp) : Prop where
  at_ : ∃ dx fs pr pd pu b rs ds us, ps = [a, pr, pd, pu] ∧ H a = some (.ins C dx fs) ∧ fs.length < 900 ∧ NoM fs ∧ fs.lookup ("wide" : Str) = some (.ref b) ∧ fs.lookup ("rows" : Str) = some (.ref pr) ∧ fs.lookup ("steps_done" : Str) = some (.ref pd) ∧ fs.lookup ("undone" : Str) = some (.ref pu) ∧
    SqT K H b (vI s) ∧ H pr = some (.lst rs) ∧ H pd = some (.lst ds) ∧ H pu = some (.lst us) ∧ TdA K H rs ((traceZ s log).map dInts) ∧ TdA K H ds (log.map Stp.dat) ∧ TdA K H us (gone.map Stp.dat) ∧ pr ≠ pd ∧ pr ≠ pu ∧ pd ≠ pu
  so : SzOk s
  ok : StepsOk s.length log
  okg : StepsOk s.length gone
  n1 : 1 ≤ s.length
  n3 : s.length ≤ 3
section
variable {K : PySem.W.Frag} {C : Addr} {H H' : Hp} {a : Addr} {ps M : List Addr} {s : List Int} {log gone : List Stp}
theorem Kp.wlk (k : Kp M H H') (w : Wlk K C H a ps s log gone) (h : ∀ x ∈ ps, x ∉ M) : Wlk K C H' a ps s log gone := by
  obtain ⟨dx, fs, pr, pd, pu, b, rs, ds, us, rfl, e, z, nm, l1, l2, l3, l4, sb, e1, e2, e3, t1, t2, t3, n1, n2, n3⟩ := w.at_
  refine ⟨⟨dx, fs, pr, pd, pu, b, rs, ds, us, rfl, k.at_ e (h _ (by simp)), z, nm, l1, l2, l3, l4, k.sqT sb, k.at_ e1 (h _ (by simp)), k.at_ e2 (h _ (by simp)), k.at_ e3 (h _ (by simp)), k.tdA t1, k.tdA t2, k.tdA t3, n1, n2, n3⟩, w.so, w.ok, w.okg, w.n1, w.n3⟩
theorem Wlk.ne {p : Addr} (w : Wlk K C H a ps s log gone) (h : H p = none) : p ∉ ps := by
  obtain ⟨dx, fs, pr, pd, pu, b, rs, ds, us, rfl, e, z, nm, l1, l2, l3, l4, sb, e1, e2, e3, _⟩ := w.at_
  intro hm
  simp only [List.mem_cons, List.not_mem_nil, or_false] at hm
  rcases hm with rfl | rfl | rfl | rfl
  · rw [h] at e; cases e
  · rw [h] at e1; cases e1
  · rw [h] at e2; cases e2
  · rw [h] at e3; cases e3
end
def spWInit (K : PySem.W.Frag) (C : Addr) : Sp := fun vs H Q _ => ∃ (p dx b : Addr) (s : List Int), vs = [.ref p, .ref b] ∧ H p = some (.ins C dx []) ∧ SqT K H b (vI s) ∧ SzOk s ∧ 1 ≤ s.length ∧ s.length ≤ 3 ∧
  ∀ (ps : List Addr) (H' : Hp), Kp [p] H H' → (∀ x ∈ ps, x = p ∨ H x = none) → Wlk K C H' p ps s [] [] → Q .non H'
def spGo (K : PySem.W.Frag) (C : Addr) : Sp := fun vs H Q _ => ∃ (a : Addr) (ps : List Addr) (s : List Int) (log gone : List Stp) (v : V) (st : Stp), vs = [.ref a, v] ∧ Wlk K C H a ps s log gone ∧ Td K H v st.dat ∧ st.ok s.length ∧ log.length ≤ 1000 ∧
  ∀ (H' : Hp), Kp ps H H' → Wlk K C H' a ps s (log ++ [st]) gone → Q .non H'
def spWDo (K : PySem.W.Frag) (C : Addr) : Sp := fun vs H Q _ => ∃ (a : Addr) (ps : List Addr) (s : List Int) (log gone : List Stp) (v : V) (st : Stp), vs = [.ref a, v] ∧ Wlk K C H a ps s log gone ∧ Td K H v st.dat ∧ st.ok s.length ∧ st.cnt ≤ 1000 ∧ log.length ≤ 1000 ∧
  ∀ (p : Addr) (ps' : List Addr) (H' : Hp), Kp ps H H' → (∀ x ∈ ps', x ∈ ps ∨ H x = none) → Wlk K C H' a ps' s (log ++ [st]) [] → SqT K H' p (vI (shownZ s (log ++ [st]))) → Q (.ref p) H'
def spUndo (K : PySem.W.Frag) (C : Addr) : Sp := fun vs H Q _ => ∃ (a : Addr) (ps : List Addr) (s : List Int) (log gone : List Stp), vs = [.ref a] ∧ Wlk K C H a ps s log gone ∧ log.length ≤ 1000 ∧ gone.length ≤ 1000 ∧
  ∀ (H' : Hp), Kp ps H H' → Wlk K C H' a ps s log.dropLast (gone ++ log.getLast?.toList) → Q (.bl (!log.isEmpty)) H'
def spRedo (K : PySem.W.Frag) (C : Addr) : Sp := fun vs H Q _ => ∃ (a : Addr) (ps : List Addr) (s : List Int) (log gone : List Stp), vs = [.ref a] ∧ Wlk K C H a ps s log gone ∧ log.length ≤ 1000 ∧ gone.length ≤ 1000 ∧
  ∀ (H' : Hp), Kp ps H H' → Wlk K C H' a ps s (log ++ gone.getLast?.toList) gone.dropLast → Q (.bl (!gone.isEmpty)) H'
def spWShowing (K : PySem.W.Frag) (C : Addr) : Sp := fun vs H Q _ => ∃ (a : Addr) (ps : List Addr) (s : List Int) (log gone : List Stp), vs = [.ref a] ∧ Wlk K C H a ps s log gone ∧ ∀ (p : Addr) (H' : Hp), Kp [] H H' → SqT K H' p (vI (shownZ s log)) → Q (.ref p) H'
def spWLog (K : PySem.W.Frag) (C : Addr) : Sp := fun vs H Q _ => ∃ (a : Addr) (ps : List Addr) (s : List Int) (log gone : List Stp), vs = [.ref a] ∧ Wlk K C H a ps s log gone ∧ log.length ≤ 1000 ∧
  ∀ (p : Addr) (ws : List V) (H' : Hp), H p = none → Kp [] H H' → H' p = some (.lst ws) → TdA K H' ws (log.map Stp.dat) → Q (.ref p) H'
def spWLen (K : PySem.W.Frag) (C : Addr) : Sp := fun vs H Q _ => ∃ (a : Addr) (ps : List Addr) (s : List Int) (log gone : List Stp), vs = [.ref a] ∧ Wlk K C H a ps s log gone ∧ ∀ (H' : Hp), Kp [] H H' → Q (.int log.length) H'
def spWScript (K : PySem.W.Frag) (C D : Addr) : Sp := fun vs H Q _ => ∃ (a : Addr) (ps : List Addr) (s : List Int) (log gone : List Stp) (m : Nat), vs = [.ref a, .int m] ∧ Wlk K C H a ps s log gone ∧ log.length ≤ 1000 ∧ m ≤ log.length ∧ cnts (log.drop (log.length - m)) ≤ 5 ∧
  ∀ (p : Addr) (H' : Hp), H p = none → Kp [] H H' → Scr K D H' p s.length (log.drop (log.length - m)) → Q (.ref p) H'
def spSEq (K : PySem.W.Frag) (D : Addr) : Sp := fun vs H Q _ => ∃ (a b : Addr) (n n' : Nat) (l l' : List Stp), vs = [.ref a, .ref b] ∧ Scr K D H a n l ∧ Scr K D H b n' l' ∧ ∀ (H' : Hp), Kp [] H H' → Q (.bl (decide (n = n') && PyData.eqv (dSteps l) (dSteps l'))) H'
/-- the law's moves over a list of steps -/
def spLRanL (K : PySem.W.Frag) : Sp := fun vs H Q _ => ∃ (a b t : Addr) (z s : List Int) (xs : List V) (l : List Stp), vs = [.ref a, .ref b, .ref t] ∧ SqT K H a (vI z) ∧ SqT K H b (vI s) ∧ OkZ z s ∧ (∀ x ∈ s, 2 ≤ x) ∧ s.length ≤ 3 ∧ H t = some (.lst xs) ∧ TdA K H xs (l.map Stp.dat) ∧ StepsOk s.length l ∧
  ∀ (p : Addr) (H' : Hp), Kp [] H H' → SqT K H' p (vI (runZ s z l)) → Q (.ref p) H'
def spLShownL (K : PySem.W.Frag) : Sp := fun vs H Q _ => ∃ (b t : Addr) (s : List Int) (xs : List V) (l : List Stp), vs = [.ref b, .ref t] ∧ SqT K H b (vI s) ∧ (∀ x ∈ s, 2 ≤ x) ∧ 1 ≤ s.length ∧ s.length ≤ 3 ∧ H t = some (.lst xs) ∧ TdA K H xs (l.map Stp.dat) ∧ StepsOk s.length l ∧
  ∀ (p : Addr) (H' : Hp), Kp [] H H' → SqT K H' p (vI (shownZ s l)) → Q (.ref p) H'
theorem ap_lranL {K : PySem.W.Frag} {H : Hp} {Q : VK} {E : XK} {a b t : Addr} {z s : List Int} {xs : List V} {l : List Stp} (hz : SqT K H a (vI z)) (hs : SqT K H b (vI s)) (ok : OkZ z s) (h2 : ∀ x ∈ s, 2 ≤ x) (h3 : s.length ≤ 3) (ht : H t = some (.lst xs)) (hv : TdA K H xs (l.map Stp.dat)) (ho : StepsOk s.length l) (k : ∀ (p : Addr) (H' : Hp), Kp [] H H' → SqT K H' p (vI (runZ s z l)) → Q (.ref p) H') :
    spLRanL K [.ref a, .ref b, .ref t] H Q E := ⟨a, b, t, z, s, xs, l, rfl, hz, hs, ok, h2, h3, ht, hv, ho, k⟩
theorem ap_lshownL {K : PySem.W.Frag} {H : Hp} {Q : VK} {E : XK} {b t : Addr} {s : List Int} {xs : List V} {l : List Stp} (hs : SqT K H b (vI s)) (h2 : ∀ x ∈ s, 2 ≤ x) (h1 : 1 ≤ s.length) (h3 : s.length ≤ 3) (ht : H t = some (.lst xs)) (hv : TdA K H xs (l.map Stp.dat)) (ho : StepsOk s.length l) (k : ∀ (p : Addr) (H' : Hp), Kp [] H H' → SqT K H' p (vI (shownZ s l)) → Q (.ref p) H') :
    spLShownL K [.ref b, .ref t] H Q E := ⟨b, t, s, xs, l, rfl, hs, h2, h1, h3, ht, hv, ho, k⟩
/-- what isinstance asks of an own class -/
structure IsT (K : PySem.W.Frag) (C : Addr) : Prop where
  ha : PySem.W.findIn K (.ref C) "__class__" = some (some (.builtin "object.__class__"))
  hn : PySem.W.specialIn K (.builtin "object.__class__") "__get__" = some (some (.builtin "getset_descriptor.__get__"))
  htk : PySem.W.takesIn K (.builtin "object.__class__") = some true
  hm : PySem.W.mroIn K C (.type "object") = some true
  kit : PySem.W.kitOne K (.ref C) (.ref C) = some true
theorem kit_self (K : PySem.W.Frag) (C : Addr) : PySem.W.kitOne K (.ref C) (.ref C) = some true := by
  unfold PySem.W.kitOne
  rw [if_pos (by simp)]
theorem g_isiIns {K : PySem.W.Frag} {H : Hp} {Q : VK} {C a dx : Addr} {fs : List (Str × V)} (e : H a = some (.ins C dx fs)) (c : Cls K C) (T : IsT K C) (k : Q (.bl true) H) : rIsi K [.ref a, .ref C] H Q :=
  ⟨_, _, .ref C, .ref C, true, rfl, .own C, .base (.ins e c T.ha T.hn T.htk T.hm), T.kit, k⟩
theorem traceZ_snoc (s : List Int) (l : List Stp) (st : Stp) : traceZ s (l ++ [st]) = traceZ s l ++ [shownZ s (l ++ [st])] := by
  unfold traceZ
  rw [List.length_append, List.length_singleton, List.range_succ, List.map_append]
  congr 1
  · refine List.map_congr_left fun i hi => ?_
    have := List.mem_range.mp hi
    rw [List.take_append_of_le_length (by omega)]
  · simp [List.take_of_length_le]
theorem traceZ_last (s : List Int) (l : List Stp) : (traceZ s l)[l.length]? = some (shownZ s l) := by
  unfold traceZ
  simp
theorem sh_list (l : List Stp) : SeqAt.shaped (.list (l.map Stp.dat)) = true := by
  refine (Lay.lst (k := 3) fun d hd => ?_).sh (by decide)
  obtain ⟨p, _, rfl⟩ := List.mem_map.mp hd
  exact lay_st p
theorem eqv_nilL (l : List Stp) : PyData.eqv (.list (l.map Stp.dat)) (.list []) = l.isEmpty := by
  cases l <;> rfl
theorem g_pop {H : Hp} {Q : VK} {p : Addr} {xs : List V} {y : V} (h : H p = some (.lst xs)) (hy : xs[xs.length - 1]? = some y) (k : ∀ H2, Kp [p] H H2 → H2 p = some (.lst xs.dropLast) → Q y H2) : rPop (.ref p) [] H Q :=
  ⟨p, xs, y, rfl, rfl, h, hy, k _ (Kp.write h) upd_same⟩
theorem putF_same (f : Str) (v : V) : ∀ {fs : List (Str × V)} {x : V}, fs.lookup f = some x → (putF f v fs).length = fs.length
  | [], _, h => by cases h
  | (g, y) :: r, x, h => by
    rw [show putF f v ((g, y) :: r) = (if g = f then (g, v) :: r else (g, y) :: putF f v r) from rfl]
    by_cases hg : g = f
    · rw [if_pos hg]
      rfl
    · rw [if_neg hg, List.length_cons, List.length_cons]
      have hb : (f == g) = false := beq_eq_false_iff_ne.mpr (Ne.symm hg)
      rw [List.lookup_cons, hb] at h
      rw [putF_same f v h]
end WZ

/-! a word of mine between two statements: what follows is shown once -/
namespace WZ
open PySem PySem.Spec PyProof.Rows L2 StX
def tCutW (t u : TS) : TS := fun D σ H => ∃ I : L2.St → Hp → Prop, t { D with nx := I } σ H ∧ ∀ σ' H', I σ' H' → u D σ' H'
theorem pss_cutW {X : Cx} {st : Stmt} {rest : List Stmt} {t u : TS} (h1 : PS X st t) (h2 : PSs X rest u) : PSs X (st :: rest) (tCutW t u) := by
  refine ⟨fun pins s σ H D I h => ?_⟩
  obtain ⟨W, hm, hu⟩ := h
  refine wpAny_execs_cons (thn (h1.run pins s σ H { D with nx := W } I hm) fun f s1 q => ?_)
  cases f with
  | next =>
    obtain ⟨σ', H', I', q⟩ := q
    exact h2.run pins s1 σ' H' D I' (hu σ' H' q)
  | ret v => exact q
  | brk => exact q
  | cont => exact q
theorem g_cutW {t u : TS} {D : Ends} {σ : L2.St} {H : Hp} (I : L2.St → Hp → Prop) (k1 : t { D with nx := I } σ H) (k2 : ∀ σ' H', I σ' H' → u D σ' H') : tCutW t u D σ H := ⟨I, k1, k2⟩
def xPar3 (F : V → V → V → Hp → Prop) : List V → Hp → Prop := fun vs H => ∃ u v w, vs = [u, v, w] ∧ F u v w H
theorem g_par3 {i j l : Nat} {tl : TA} {D : Ends} {σ : L2.St} {H : Hp} (k : tl σ H (xPar3 fun u v w H1 => D.nx (((σ.set i (some u)).set j (some v)).set l (some w)) H1)) : tPar3 i j l tl D σ H := k
theorem g_xPar3 {a b c : V} {H : Hp} {F : V → V → V → Hp → Prop} (k : F a b c H) : xPar3 F [a, b, c] H := ⟨a, b, c, rfl, k⟩
end WZ

/-! the state of a law over a walk -/
namespace WZ
open PySem PySem.Spec PyProof.Rows L2 StX
/-! how large steps are -/
theorem wt_i3 {x : Int} (h1 : -3 ≤ x) (h2 : x ≤ 3) : (PyData.int x).weight ≤ 2 := by
  obtain rfl | rfl | rfl | rfl | rfl | rfl | rfl : x = -3 ∨ x = -2 ∨ x = -1 ∨ x = 0 ∨ x = 1 ∨ x = 2 ∨ x = 3 := by omega
  all_goals decide +kernel
theorem wt_str (x : Str) {n : Nat} (h : x.cps.size ≤ n) : (PyData.str x).weight ≤ n := by
  simp only [PyData.weight]
  exact h
theorem wt_pl {n : Nat} {p : Pl} (hn : n ≤ 3) (h : p.ok n) : p.dat.weight ≤ 20 := by
  cases p with
  | turn w b k =>
    obtain ⟨h1, h2⟩ := h
    have a := wt_i3 (x := (w : Int)) (by omega) (by omega)
    have c := wt_i3 (x := b) (by omega) (by omega)
    have e : (PyData.str k.s).weight ≤ 4 := by cases k <;> decide +kernel
    have f : (PyData.str ("turn" : Str)).weight ≤ 4 := by decide +kernel
    simp only [Pl.dat, PyData.weight, PyData.weightAll] at a c e f ⊢
    omega
  | set w b =>
    obtain ⟨h1, h2, h3⟩ := h
    have a := wt_i3 (x := (w : Int)) (by omega) (by omega)
    have c := wt_i3 (x := b) (by omega) (by omega)
    have f : (PyData.str ("set" : Str)).weight ≤ 3 := by decide +kernel
    simp only [Pl.dat, PyData.weight, PyData.weightAll] at a c f ⊢
    omega
theorem wt_pls {n : Nat} (hn : n ≤ 3) : ∀ {l : List Pl}, (∀ p ∈ l, p.ok n) → PyData.weightAll (l.map Pl.dat) ≤ 21 * l.length
  | [], _ => Nat.le_refl _
  | p :: r, h => by
    have a := wt_pl hn (h p List.mem_cons_self)
    have b := wt_pls hn (l := r) fun q hq => h q (List.mem_cons_of_mem _ hq)
    simp only [List.map_cons, PyData.weightAll, List.length_cons]
    omega
theorem wt_st {n : Nat} {s : Stp} (hn : n ≤ 3) (h : s.ok n) : s.dat.weight ≤ 40 * s.cnt := by
  cases s with
  | pl p =>
    have := wt_pl hn (p := p) h
    show p.dat.weight ≤ 40 * 1
    omega
  | alike a b f g =>
    obtain ⟨h1, h2, h3, h4⟩ := h
    have wa := wt_i3 (x := (a : Int)) (by omega) (by omega)
    have wb := wt_i3 (x := (b : Int)) (by omega) (by omega)
    have wf := wt_pls hn h3
    have wg := wt_pls hn h4
    have e : (PyData.str ("alike" : Str)).weight ≤ 5 := by decide +kernel
    simp only [Stp.dat, Stp.cnt, PyData.weight, PyData.weightAll] at wa wb wf wg e ⊢
    omega
theorem wt_sts {n : Nat} (hn : n ≤ 3) : ∀ {l : List Stp}, StepsOk n l → PyData.weightAll (l.map Stp.dat) ≤ 41 * cnts l
  | [], _ => Nat.le_refl _
  | p :: r, h => by
    have a := wt_st hn (h p List.mem_cons_self)
    have b := wt_sts hn (l := r) fun q hq => h q (List.mem_cons_of_mem _ hq)
    have c := cnt_pos p
    show p.dat.weight + 1 + PyData.weightAll (r.map Stp.dat) ≤ 41 * (p.cnt + cnts r)
    omega
theorem cnts_3 : ∀ {l : List Stp}, (∀ st ∈ l, st.cnt ≤ 3) → cnts l ≤ 3 * l.length
  | [], _ => Nat.le_refl _
  | p :: r, h => by
    have a := h p List.mem_cons_self
    have b := cnts_3 (l := r) fun q hq => h q (List.mem_cons_of_mem _ hq)
    show p.cnt + cnts r ≤ 3 * (r.length + 1)
    omega
section
variable {K : PySem.W.Frag} {C D : Addr} {H H' : Hp} {a : Addr} {ps M : List Addr} {s : List Int} {log gone : List Stp} {Q : VK} {E : XK} {σ : L2.St} {t : TA} {sp : Sp} {m : Str}
theorem g_xMeW (w : Wlk K C H a ps s log gone) (hm : ∀ fs, NoM fs → fs.lookup m = none) (k : t σ H fun vs H2 => sp (.ref a :: vs) H2 Q E) : xMe C m sp E t σ Q (.ref a) H := by
  obtain ⟨dx, fs, pr, pd, pu, b, rs, ds, us, rfl, e, z, nm, _⟩ := w.at_
  exact g_xMe e (hm _ nm) k
theorem g_xPrW (w : Wlk K C H a ps s log gone) (k : sp [.ref a] H Q E) : xPr C sp E Q (.ref a) H := by
  obtain ⟨dx, fs, pr, pd, pu, b, rs, ds, us, rfl, e, z, nm, _⟩ := w.at_
  exact g_xPr e k
theorem g_lenW (w : Wlk K C H a ps s log gone) (k : sp [.ref a] H (fun v H' => ∃ i : Int, v = .int i ∧ 0 ≤ i ∧ i < 2 ^ 63 ∧ Q (.int i) H') E) : rLenI C sp E [.ref a] H Q := by
  obtain ⟨dx, fs, pr, pd, pu, b, rs, ds, us, rfl, e, z, nm, _⟩ := w.at_
  exact g_lenI e k
theorem ap_wundo (w : Wlk K C H a ps s log gone) (h1 : log.length ≤ 1000) (h2 : gone.length ≤ 1000) (k : ∀ (H' : Hp), Kp ps H H' → Wlk K C H' a ps s log.dropLast (gone ++ log.getLast?.toList) → Q (.bl (!log.isEmpty)) H') : spUndo K C [.ref a] H Q E := ⟨a, ps, s, log, gone, rfl, w, h1, h2, k⟩
theorem ap_wredo (w : Wlk K C H a ps s log gone) (h1 : log.length ≤ 1000) (h2 : gone.length ≤ 1000) (k : ∀ (H' : Hp), Kp ps H H' → Wlk K C H' a ps s (log ++ gone.getLast?.toList) gone.dropLast → Q (.bl (!gone.isEmpty)) H') : spRedo K C [.ref a] H Q E := ⟨a, ps, s, log, gone, rfl, w, h1, h2, k⟩
theorem ap_wdo {v : V} {st : Stp} (w : Wlk K C H a ps s log gone) (hv : Td K H v st.dat) (ho : st.ok s.length) (hc : st.cnt ≤ 1000) (h1 : log.length ≤ 1000) (k : ∀ (p : Addr) (ps' : List Addr) (H' : Hp), Kp ps H H' → (∀ x ∈ ps', x ∈ ps ∨ H x = none) → Wlk K C H' a ps' s (log ++ [st]) [] → SqT K H' p (vI (shownZ s (log ++ [st]))) → Q (.ref p) H') : spWDo K C [.ref a, v] H Q E :=
  ⟨a, ps, s, log, gone, v, st, rfl, w, hv, ho, hc, h1, k⟩
theorem ap_wshowing (w : Wlk K C H a ps s log gone) (k : ∀ (p : Addr) (H' : Hp), Kp [] H H' → SqT K H' p (vI (shownZ s log)) → Q (.ref p) H') : spWShowing K C [.ref a] H Q E := ⟨a, ps, s, log, gone, rfl, w, k⟩
theorem ap_wlog (w : Wlk K C H a ps s log gone) (h1 : log.length ≤ 1000) (k : ∀ (p : Addr) (ws : List V) (H' : Hp), H p = none → Kp [] H H' → H' p = some (.lst ws) → TdA K H' ws (log.map Stp.dat) → Q (.ref p) H') : spWLog K C [.ref a] H Q E := ⟨a, ps, s, log, gone, rfl, w, h1, k⟩
theorem ap_wlen (w : Wlk K C H a ps s log gone) (k : ∀ (H' : Hp), Kp [] H H' → Q (.int log.length) H') : spWLen K C [.ref a] H Q E := ⟨a, ps, s, log, gone, rfl, w, k⟩
theorem ap_wscript {m : Nat} (w : Wlk K C H a ps s log gone) (h1 : log.length ≤ 1000) (hm : m ≤ log.length) (hc : cnts (log.drop (log.length - m)) ≤ 5) (k : ∀ (p : Addr) (H' : Hp), H p = none → Kp [] H H' → Scr K D H' p s.length (log.drop (log.length - m)) → Q (.ref p) H') : spWScript K C D [.ref a, .int m] H Q E := ⟨a, ps, s, log, gone, m, rfl, w, h1, hm, hc, k⟩
theorem ap_walk {b : Addr} (hs : SqT K H b (vI s)) (so : SzOk s) (h1 : 1 ≤ s.length) (h3 : s.length ≤ 3) (k : ∀ (p : Addr) (ps : List Addr) (H' : Hp), Kp [] H H' → (∀ x ∈ ps, H x = none) → Wlk K C H' p ps s [] [] → Q (.ref p) H') : xMk C (spWInit K C) E Q [.ref b] H :=
  g_xMk fun x dx H2 nx k2 e2 => ⟨x, dx, b, s, rfl, e2, k2.sqT hs, so, h1, h3, fun ps H3 k3 hn w => ⟨rfl, k x ps H3 (k2.step1 k3 (.inr nx)) (fun y hy => by
    rcases hn y hy with z | z
    · rw [z]; exact nx
    · exact k2.th.none z) w⟩⟩
theorem g_eqScr {b : Addr} {n n' : Nat} {l l' : List Stp} (sa : Scr K D H a n l) (sb : Scr K D H b n' l') (k : ∀ (H' : Hp), Kp [] H H' → Q (.bl (decide (n = n') && PyData.eqv (dSteps l) (dSteps l'))) H') : rEqIn D (spSEq K D) E (.ref a) (.ref b) H Q := by
  obtain ⟨dx, v, e, t⟩ := sa.at_
  obtain ⟨dy, u, e', t'⟩ := sb.at_
  exact g_rEqIn e e' ⟨a, b, n, n', l, l', rfl, sa, sb, k⟩
theorem ap_alikeB {x : Bool} {n : Nat} (hn : 0 < n) (k : ∀ H', Kp [] H H' → Q (.bl true) H') : spAlike K n [.bl x, .bl x] H Q E := ap_alike (.bool x) (.bl x) (.bl x) rfl (by simp [PyData.depth, hn]) (by simp [PyData.weight]) k
theorem ap_manyW {xs : List V} {l : List Stp} (s : SqT K H a xs) (t : TdA K H xs (l.map Stp.dat)) (hl : l.length ≤ 1000) (k : ∀ (H' : Hp), Kp [] H H' → Q (.int (cnts l)) H') : spMany K [.ref a] H Q E := ⟨a, xs, l, rfl, s, t, hl, k⟩
end
/-- all that stands between two turns: the walk, and the law's own two lists -/
structure WkS (K : PySem.W.Frag) (C : Addr) (H : Hp) (h q a b pl pg : Addr) (s : List Int) (ps : List Addr) (log gone : List Stp) (ls gs : List V) (i : Nat) : Prop where
  src : Src H h q
  wk : Wlk K C H a ps s log gone
  sb : SqT K H b (vI s)
  el : H pl = some (.lst ls)
  tl : TdA K H ls (log.map Stp.dat)
  eg : H pg = some (.lst gs)
  tg : TdA K H gs (gone.map Stp.dat)
  lg : pl ≠ pg
  dis : ∀ x ∈ ps, x ≠ h ∧ x ≠ q ∧ x ≠ pl ∧ x ≠ pg
  lh : pl ≠ h
  lq : pl ≠ q
  gh : pg ≠ h
  gq : pg ≠ q
  len : log.length + gone.length ≤ i
  cnt : ∀ st ∈ log ++ gone, st.cnt ≤ 3
section
variable {K : PySem.W.Frag} {C : Addr} {H H' : Hp} {h q a b pl pg : Addr} {s : List Int} {ps : List Addr} {log gone : List Stp} {ls gs : List V} {i : Nat}
theorem WkS.k0 (w : WkS K C H h q a b pl pg s ps log gone ls gs i) (k : Kp [] H H') : WkS K C H' h q a b pl pg s ps log gone ls gs i :=
  ⟨k.src w.src List.not_mem_nil List.not_mem_nil, k.wlk w.wk fun _ _ => List.not_mem_nil, k.sqT w.sb, k.at_ w.el List.not_mem_nil, k.tdA w.tl, k.at_ w.eg List.not_mem_nil, k.tdA w.tg, w.lg, w.dis, w.lh, w.lq, w.gh, w.gq, w.len, w.cnt⟩
theorem WkS.kS (w : WkS K C H h q a b pl pg s ps log gone ls gs i) (k : Kp [h, q] H H') (S : Src H' h q) : WkS K C H' h q a b pl pg s ps log gone ls gs i :=
  ⟨S, k.wlk w.wk fun x hx => notin2 (w.dis x hx).1 (w.dis x hx).2.1, k.sqT w.sb, k.at_ w.el (notin2 w.lh w.lq), k.tdA w.tl, k.at_ w.eg (notin2 w.gh w.gq), k.tdA w.tg, w.lg, w.dis, w.lh, w.lq, w.gh, w.gq, w.len, w.cnt⟩
theorem WkS.le (w : WkS K C H h q a b pl pg s ps log gone ls gs i) {j : Nat} (hj : i ≤ j) : WkS K C H h q a b pl pg s ps log gone ls gs j :=
  ⟨w.src, w.wk, w.sb, w.el, w.tl, w.eg, w.tg, w.lg, w.dis, w.lh, w.lq, w.gh, w.gq, Nat.le_trans w.len hj, w.cnt⟩
theorem WkS.lens (w : WkS K C H h q a b pl pg s ps log gone ls gs i) : ls.length = log.length ∧ gs.length = gone.length := by
  have h1 := w.tl.length
  have h2 := w.tg.length
  rw [List.length_map] at h1 h2
  exact ⟨h1, h2⟩
theorem move_len (l g : List Stp) : l.dropLast.length + (g ++ l.getLast?.toList).length = l.length + g.length := by
  rcases List.eq_nil_or_concat l with rfl | ⟨l', x, rfl⟩
  · simp
  · simp
    omega
theorem move_mem {l g : List Stp} {x : Stp} (h : x ∈ l.dropLast ++ (g ++ l.getLast?.toList)) : x ∈ l ++ g := by
  rcases List.eq_nil_or_concat l with rfl | ⟨l', y, rfl⟩
  · simpa using h
  · simp at h ⊢
    rcases h with h | h | h <;> simp [h]
theorem move_mem2 {l g : List Stp} {x : Stp} (h : x ∈ (l ++ g.getLast?.toList) ++ g.dropLast) : x ∈ l ++ g := by
  rcases List.eq_nil_or_concat g with rfl | ⟨l', y, rfl⟩
  · simpa using h
  · simp at h ⊢
    rcases h with h | h | h <;> simp [h]
theorem WkS.undo {H1 : Hp} {pg2 : Addr} {ls' gs' : List V} (w : WkS K C H h q a b pl pg s ps log gone ls gs i) (n : H1 pg2 = none) (w1 : Wlk K C H1 a ps s log.dropLast (gone ++ log.getLast?.toList)) (S : Src H1 h q) (l1 : H1 pl = some (.lst ls')) (k : Kp [] H1 H')
    (sb : SqT K H1 b (vI s)) (tl : TdA K H1 ls' (log.dropLast.map Stp.dat)) (e : H' pg2 = some (.lst gs')) (tg : TdA K H1 gs' ((gone ++ log.getLast?.toList).map Stp.dat)) : WkS K C H' h q a b pl pg2 s ps log.dropLast (gone ++ log.getLast?.toList) ls' gs' (i + 1) :=
  ⟨k.src S List.not_mem_nil List.not_mem_nil, k.wlk w1 fun _ _ => List.not_mem_nil, k.sqT sb, k.at_ l1 List.not_mem_nil, k.tdA tl, e, k.tdA tg, ne_of_none l1 n, fun x hx => ⟨(w.dis x hx).1, (w.dis x hx).2.1, (w.dis x hx).2.2.1, fun z => w1.ne n (z ▸ hx)⟩, w.lh, w.lq, S.ne n, S.ne2 n,
    by rw [move_len]; exact Nat.le_succ_of_le w.len, fun st hst => w.cnt st (move_mem hst)⟩
theorem WkS.redo {H1 : Hp} {pl2 : Addr} {ls' gs' : List V} (w : WkS K C H h q a b pl pg s ps log gone ls gs i) (n : H1 pl2 = none) (w1 : Wlk K C H1 a ps s (log ++ gone.getLast?.toList) gone.dropLast) (S : Src H1 h q) (l1 : H1 pg = some (.lst gs')) (k : Kp [] H1 H')
    (sb : SqT K H1 b (vI s)) (tg : TdA K H1 gs' (gone.dropLast.map Stp.dat)) (e : H' pl2 = some (.lst ls')) (tl : TdA K H1 ls' ((log ++ gone.getLast?.toList).map Stp.dat)) : WkS K C H' h q a b pl2 pg s ps (log ++ gone.getLast?.toList) gone.dropLast ls' gs' (i + 1) :=
  ⟨k.src S List.not_mem_nil List.not_mem_nil, k.wlk w1 fun _ _ => List.not_mem_nil, k.sqT sb, e, k.tdA tl, k.at_ l1 List.not_mem_nil, k.tdA tg, (ne_of_none l1 n).symm, fun x hx => ⟨(w.dis x hx).1, (w.dis x hx).2.1, fun z => w1.ne n (z ▸ hx), (w.dis x hx).2.2.2⟩, S.ne n, S.ne2 n, w.gh, w.gq,
    by have := move_len gone log; have := w.len; omega, fun st hst => w.cnt st (move_mem2 hst)⟩
end
end WZ

/-! an own error over ValueError, through further own classes, whose own __init__ says super().__init__(text) -/
namespace WZ
open PySem PySem.Spec PyProof.Rows L2 StX
section
variable {prog : Program} {w : World} {A : Around} {E : Value → Shared → Prop} {h : Heap} {g : Array GenState} {d : Drawn} {t : Nat} {os : OsState}
variable {nm q : Str} {C N : Addr} {bs bm : List Value} {hdct : Bool} {sn : List Str} {sub : List Value} {ab : Bool} {col : Option Bool} {dd : Option Addr} {k0 k1 k2 k3 k5 : Option Value}
/-- the bound ValueError.__init__ at u, called: e's texts are laid anew -/
theorem sup_wrap {u e t0 : Addr} {rest : List Value} {Q : Value → Shared → Prop} (hC : h.get? C = some (excClassObj nm q C N bs bm hdct sn sub ab col dd k0 k1 k2 k3 k5 "ValueError.__new__"))
    (he : h.get? e = some (PySem.HandSPX.excO C t0)) (hu : h.get? u = some (PySem.W.kxs_mw "ValueError.__init__" e)) (hz : rest.length ≤ sizeLine)
    (hq : ∀ h' t1, (∀ b o, b ≠ e → h.get? b = some o → h'.get? b = some o) → h'.get? e = some (PySem.HandSPX.excO C t1) → Q .none ⟨h', g, d, t, os⟩) :
    wpAny (model prog w) A (call (.ref u) rest) Q E ⟨h, g, d, t, os⟩ := by
  have FB := F.excBase_ValueError
  refine wpAny_call (codeAny_of_tree ?_)
  show wpAny _ A.in1 (callAny (.ref u) ⟨rest, []⟩) _ _ _
  simp only [callAny]
  refine wpAny_bind (wpAny_load hu ?_)
  have e1 : (Value.type "method-wrapper" == Value.type "method" || Value.type "method-wrapper" == Value.type "builtin_function_or_method" || Value.type "method-wrapper" == Value.type "method-wrapper") = true := by decide
  simp only [PySem.W.kxs_mw, e1, if_true]
  refine PySem.W.KFB.if_so (by decide) (wpAny_bind (PySem.W.check_bound_init FB.toExcCallFacts hC he rfl (wpAny_bind (wpAny_pure (wpAny_pure ?_)))))
  refine ⟨plainId_quiet FB.init.plain _, codeAny_builtin FB.initEntry ?_⟩
  rw [Around.under_plainId FB.init.plain _]
  wp_walk
  refine hq _ h.objs.size (fun b o hb ho => ?_) ?_
  · exact (Heap.get?_update_other _ _ (Ne.symm hb)).trans (Heap.get?_push_of_some _ ho)
  · rw [Heap.get?_update_self _ (Heap.get?_push_of_some _ he) rfl]
    rfl
end
/-- the body super().__init__(text) -/
def supStm (m : Str) (j : Nat) (p0 p1 p2 p3 p4 p5 : Pos) : Stmt := .Expr (.Call (.Attribute (.Call (.Name "super" p0) [] [] p1) "__init__" p2) [.Constant (.str m) j p3] [] p4) p5
/-- what the written part says of such a class -/
structure SupC (K : PySem.W.Frag) (P : Program) (C fI cc cda : Addr) (fd : FuncData) (me : Str) (m : Str) (j : Nat) (p0 p1 p2 p3 p4 : Pos) : Prop where
  cls : ∃ nm q N bs bm hdct sn sub ab col dd k0 k1 k2 k3 k5, K.lookup C = some (excClassObj nm q C N bs bm hdct sn sub ab col dd k0 k1 k2 k3 k5 "ValueError.__new__") ∧ PySem.HandSPX.refsVE bm = true
  ini : PySem.W.findIn K (.ref C) "__init__" = some (some (.ref fI))
  tyI : PySem.W.typeIn K (.ref fI) = some (.type "function")
  fn : ∃ oc od sl, K.lookup fI = some ⟨oc, od, .func fd, sl⟩
  code : ∃ ccl cdd vs ccs file tf, K.lookup cda = some ⟨ccl, cdd, .fields vs, ccs⟩ ∧ vs[2]? = some (.str file tf) ∧ ((P.main.file : Str) == file) = true
  cdv : fd.code = .ref cda
  clo : fd.closure = [(("__class__" : Str), cc)]
  glb : fd.globals = mainGlobals
  blt : fd.builtins = builtinsNs
  cel : ∃ cl cld csl, K.lookup cc = some ⟨cl, cld, .cell (some (.ref C)), csl⟩
  cin : PySem.W.codeIn K (.ref cda) fd.qualname = true
  sup : PySem.W.ks_superIn K C C "__init__" = some (some (.builtin "ValueError.__init__"))
  noS : PySem.W.nsIn K mainGlobals "super" = some none
  opq : PySem.W.nsIn K cStatics "thirdparty.any" = some none
  isV : PySem.W.subIn K (.ref C) (.type "ValueError") = some true
  isC : PySem.W.mroIn K C (.ref C) = some true
  exC : PySem.W.subIn K (.ref C) (.type "BaseException") = some true
  tyC : PySem.W.typeIn K (.ref C) = some (.type "type")
  kC : PySem.W.keepIn K (.ref C) = true
  top : (P.main.scope.names.lookup ("super" : Str)).isSome = false
  par : ∃ ar, (fd.params.posonlyargs ++ fd.params.args).head? = some ar ∧ ar.arg = me
  sSup : fd.scope.names.lookup ("super" : Str) = some .globalImplicit
  sCls : fd.scope.names.lookup ("__class__" : Str) = some .free
  sSelf : fd.scope.names.lookup me = some .local
  sCell : ∀ x ∈ fd.scope.names, x.2 ≠ .cell
  sCo : fd.scope.isCoroutine = false
  sGen : fd.scope.isGenerator = false
  sFun : fd.scope.kind = .function
  sInt : ∀ L a : Addr, interactive (callEnv fd L a) = false
  sEv : ∀ L a : Addr, ∃ pl : Sem Bool, eval (.Call (.Attribute (.Call (.Name "super" p0) [] [] p1) "__init__" p2) [.Constant (.str m) j p3] [] p4) (callEnv fd L a) = (do
      let ov ← attributeBase (.Call (.Name "super" p0) [] [] p1) "__init__" (callEnv fd L a) (eval (.Call (.Name "super" p0) [] [] p1) (callEnv fd L a))
      standAt p2.atName
      let (f, first) ← holding [ov] (getMethod ov "__init__" pl)
      callWith p4 f first (backTo p4 (starEach [.Constant (.str m) j p3] (callEnv fd L a))) [])
section
variable {prog : Program} {w : World} {A : Around} {E : Value → Shared → Prop} {h : Heap} {g : Array GenState} {d : Drawn} {t : Nat} {os : OsState}
variable {K : PySem.W.Frag} {C fI cc cda L e : Addr} {fd : FuncData} {self : Str} {mg : Str → Option Value}
/-- super() and its __init__ called, at the activation of __init__ -/
theorem sup_stmt {body : List Stmt} {mL : Str → Option Value} {m : Str} {j : Nat} {p0 p1 p2 p3 p4 p5 : Pos} {Q : Flow → Shared → Prop} {t0 : Addr} (T : SupC K prog C fI cc cda fd self m j p0 p1 p2 p3 p4) (kin : K.In h) (hg : h.Ns mainGlobals mg) (hb : ∃ mb, h.Ns builtinsNs mb ∧ ∀ x : Str, x ≠ "__name__" → mb x = bootBuiltins x)
    (he : h.get? e = some (PySem.HandSPX.excO C t0)) (hL : h.Ns L mL) (hs : mL self = some (.ref e))
    (hq : ∀ h' tk t1, (∀ b o, b ≠ e → h.get? b = some o → h'.get? b = some o) → h'.get? e = some (PySem.HandSPX.excO C t1) → Q .next ⟨h', g, d, tk, os⟩) :
    _root_.PySem.wpAt (model prog w) (A.deeper (callEnv fd L fI)) (.func body (callEnv fd L fI)) (exec (supStm m j p0 p1 p2 p3 p4 p5) (callEnv fd L fI)) Q E ⟨h, g, d, t, os⟩ := by
  obtain ⟨nm, q, N, bs, bm, hdct, sn, sub, ab, col, dd, k0, k1, k2, k3, k5, hC, hbm⟩ := T.cls
  obtain ⟨oc, od, sl, hfn⟩ := T.fn
  obtain ⟨ccl, cdd, vs, ccs, file, tf, hcode, hvs, hfile⟩ := T.code
  obtain ⟨cl, cld, csl, hcel⟩ := T.cel
  obtain ⟨ar, hp, har⟩ := T.par
  obtain ⟨mb, hmb, hbt⟩ := hb
  have eC := kin _ _ hC
  have hcl : PySem.W.clsIn K C = some { name := nm, bases := bs, mro := .ref C :: bm, ns := N, qualname := q, hasDict := hdct, slotNames := sn, subclasses := sub, abstract := ab, collection := col, hasDel := false } := by
    unfold PySem.W.clsIn
    rw [hC] <;> rfl
  have I : PySem.W.InstAt h e (PySem.HandSPX.excO C t0) C none := ⟨he, rfl, rfl, trivial⟩
  have neC : e ≠ C := PySem.W.ks_ne kin I hcl
  have kS : (callEnv fd L fI).kindOf "super" = some .globalImplicit := T.sSup
  have kK : (callEnv fd L fI).kindOf "__class__" = some .free := T.sCls
  have kL : (callEnv fd L fI).kindOf ar.arg = some .local := by rw [har]; exact T.sSelf
  have kF : (callEnv fd L fI).scope.kind = .function := T.sFun
  obtain ⟨pl, hev⟩ := T.sEv L fI
  refine ks_wpAt_Expr_any ?_ (T.sInt L fI)
  refine ks_wpAt_MethodCall ?_ hev
  refine ks_wpAt_super_base (env := callEnv fd L fI) kS kK (by decide) rfl (kin _ _ hfn) rfl hp T.cdv (kin _ _ hcode) rfl hvs hfile T.top ?_
  refine PySem.W.ks_loadName_global kF kS (Calls.loadGlobal_builtin (mg := mg) (mb := mb) (by rw [show (callEnv fd L fI).globals = mainGlobals from T.glb]; exact hg) (PySem.W.mg_none_of kin hg T.noS) (by rw [show (callEnv fd L fI).builtins = builtinsNs from T.blt]; exact hmb) ((hbt _ (by decide +kernel)).trans (show bootBuiltins "super" = some (.type "super") by decide +kernel)) ⟨rfl, ?_⟩)
  refine wpAny_loadName_free kF kK (show (callEnv fd L fI).cells.lookup ("__class__" : Str) = some cc by rw [show (callEnv fd L fI).cells = [(("__class__" : Str), cc)] from T.clo]; rfl) ⟨_, kin _ _ hcel, rfl⟩ ?_
  refine wpAny_loadName_local kF kL hL (by rw [har]; exact hs) ?_
  refine ks_wpAny_isType_cls eC rfl ⟨rfl, ?_⟩
  refine ks_wpAny_call_super eC rfl he rfl (fun c z => by cases z) (PySem.W.looks_mroIn kin T.isC) (fun h1 hso kk1 => ?_)
  have kin1 := kin.keeps kk1
  have hsup := T.sup
  unfold PySem.W.ks_superIn at hsup
  rw [hcl] at hsup
  refine PySem.W.kxs_getMethod PySem.W.kxs_ValueError hso (PySem.W.looks_opaque kin1 T.opq) (l₀ := .ref C :: bm) (fun A Q E s k q => wpAny_bind ((PySem.W.looks_clsIn kin1 hcl) A _ E s k (wpAny_pure q))) rfl kin1 hsup
    ((PySem.W.InstAt.type (h := h1) (od := none) ⟨kk1 _ _ he, rfl, rfl, trivial⟩).andThen (PySem.W.looks_subIn kin1 T.isV)) neC (by decide) ?_
  have hu : (h1.push (PySem.W.kxs_mw "ValueError.__init__" e)).get? h1.objs.size = some (PySem.W.kxs_mw "ValueError.__init__" e) := Heap.get?_push_at rfl rfl
  have up : ∀ b o, h.get? b = some o → (h1.push (PySem.W.kxs_mw "ValueError.__init__" e)).get? b = some o := fun b o z => Heap.get?_push_of_some _ (kk1 b o z)
  refine PySem.W.kxs_callWith (i := "ValueError.__init__") (x := e) rfl ?_
  refine Calls.evalArgs_plain ?_
  refine spliced_more (wpAny_Constant_str (spliced_none ⟨hu, ?_⟩))
  refine sup_wrap (up _ _ eC) (up _ _ he) hu (by show 1 ≤ sizeLine; rw [sizeLine_eq]; omega) fun h2 t1 k2 e2 => ?_
  exact hq h2 _ t1 (fun b o hb z => k2 b o hb (up b o z)) e2
end
theorem get_new {h : Heap} {a : Addr} (k : h.objs.size ≤ a) : h.get? a = none := by
  cases z : h.get? a with
  | none => rfl
  | some o => exact absurd (Heap.lt_size z) (Nat.not_lt.mpr k)
section
variable {X : Cx} {C fI cc cda : Addr} {fd : FuncData} {me x : Str} {k : Nat} {p pos : Pos}
/-- C(), where C's __init__(self) is super().__init__(text) -/
theorem pmk_sup {m : Str} {j : Nat} {p0 p1 p2 p3 p4 p5 : Pos} (T : SupC X.K X.prog C fI cc cda fd me m j p0 p1 p2 p3 p4) (hb : fd.body = .stmts [supStm m j p0 p1 p2 p3 p4 p5]) (hbd : ∀ v : Value, bindArgs fd ⟨[v], []⟩ = pure [(me, v)])
    (hr : Room (k + 1) X.A) (hg : Gl X x) (hm : X.mg x = some (.ref C)) (hdb : (x == ("__debug__" : Str)) = false := by decide) : PMk X (.Call (.Name x p) [] [] pos) (fun _ H Q => Q (.ref C) none H) := by
  intro pins s σ H Q I hq
  obtain ⟨nm, q, N, bs, bm, hdct, sn, sub, ab, col, dd, k0, k1, k2, k3, k5, hC, hbm⟩ := T.cls
  obtain ⟨oc, od, sl, hfn⟩ := T.fn
  refine wpAny_Call_Name_kw (ld_glob I hg hm ?_ hdb)
  refine PySem.W.callWith_K0 I.kIn T.kC ?_
  show wpAny _ _ (call (.ref C) []) _ _ _
  obtain ⟨hp, g, dr, tk, os⟩ := s
  have kk : ∀ b o, hp.get? b = some o → ((hp.push (PySem.W.kdv_tup [])).push (PySem.HandSPX.excO C hp.objs.size)).get? b = some o := fun b o e => Heap.get?_push_of_some _ (Heap.get?_push_of_some _ e)
  have he : ((hp.push (PySem.W.kdv_tup [])).push (PySem.HandSPX.excO C hp.objs.size)).get? (hp.objs.size + 1) = some (PySem.HandSPX.excO C hp.objs.size) := by heap_get
  have kin : X.K.In hp := I.kIn
  refine wpAny_call (PySem.HandSPX.call_own F.excBase_ValueError (fun Y => PySem.HandSPX.refsVE_contains Y bm hbm) (kin _ _ hC) (PySem.W.looks_findIn kin T.ini) (fun z => PySem.W.bind_fn kin z T.tyI) (Nat.zero_le _) ?_)
  refine ks_codeAny_call_defAt (binds := [(me, .ref (hp.objs.size + 1))]) (hr.make C [] []).depth (kk _ _ (kin _ _ hfn)) rfl (I.ok.mod.nolimit.keeps fun b o z => kk b o (I.bk b o z)) (T.cdv ▸ PySem.W.codeRec_of (kin.keeps kk) T.cin) hb (BindsTo.of_eq (hbd _)) T.sCell ?_ (fun h0 hns hk => ?_) T.sCo T.sGen T.sFun
  · intro y hy
    rw [List.mem_singleton.mp hy]
    exact T.sSelf
  have kk0 : ∀ b o, hp.get? b = some o → h0.get? b = some o := fun b o z => hk b o (kk b o z)
  obtain ⟨mb, h1, h2⟩ := I.mod.blt
  refine ks_wpAt_execs_cons (sup_stmt T (kin.keeps kk0) (I.mod.glob.keeps fun b o z => kk0 b o (I.bk b o z)) ⟨mb, h1.keeps fun b o z => kk0 b o (I.bk b o z), h2⟩ (hk _ _ he) hns (by simp [List.lookup]) fun h3 tk3 t1 k3' e3 => ?_)
  refine wpAt_of_wpAny (wpAny_execs_nil ?_)
  have nb : ∀ {b : Addr} {o : Obj}, hp.get? b = some o → b ≠ hp.objs.size + 1 := fun {b o} z => Nat.ne_of_lt (Nat.lt_succ_of_lt (Heap.lt_size z))
  exact ⟨rfl, hp.objs.size + 1, _, _, ⟨hp, g, dr, tk, os⟩, H, .ref C, none, rfl, I, fun b o z => k3' b o (nb z) (kk0 b o z), get_new (Nat.le_succ _), e3, ⟨rfl, rfl⟩, rfl, rfl, I.hok.fresh (Nat.le_succ _), rfl, I.bare, raises_own T.exC T.tyC, hq⟩
end
theorem SupC.exm {K : PySem.W.Frag} {P : Program} {C fI cc cda : Addr} {fd : FuncData} {me m : Str} {j : Nat} {p0 p1 p2 p3 p4 : Pos} (T : SupC K P C fI cc cda fd me m j p0 p1 p2 p3 p4) : PySem.W.exmOne K (.ref C) (.ref C) = some true := by
  obtain ⟨nm, q, N, bs, bm, hdct, sn, sub, ab, col, dd, k0, k1, k2, k3, k5, hC, _⟩ := T.cls
  have hcl : (PySem.W.clsIn K C).isSome = true := by
    unfold PySem.W.clsIn
    rw [hC] <;> rfl
  have e1 : PySem.W.subIn K (.ref C) (.ref C) = some true := T.isC
  unfold PySem.W.exmOne PySem.W.kitCls
  rw [T.exC]
  simp only [hcl, T.tyC, e1, beq_self_eq_true, Bool.and_self, if_true]
/-- an own error class by its name -/
structure Rz (K : PySem.W.Frag) (P : Program) (mg : Str → Option Value) (x : Str) (C : Addr) : Prop where
  ex : ∃ (fI cc cda : Addr) (fd : FuncData) (me m : Str) (j : Nat) (p0 p1 p2 p3 p4 p5 : Pos), SupC K P C fI cc cda fd me m j p0 p1 p2 p3 p4 ∧ fd.body = .stmts [supStm m j p0 p1 p2 p3 p4 p5] ∧ ∀ v : Value, bindArgs fd ⟨[v], []⟩ = pure [(me, v)]
  nm : mg x = some (.ref C)
theorem Rz.exm {K : PySem.W.Frag} {P : Program} {mg : Str → Option Value} {x : Str} {C : Addr} (r : Rz K P mg x C) : PySem.W.exmOne K (.ref C) (.ref C) = some true := by
  obtain ⟨_, _, _, _, _, _, _, _, _, _, _, _, _, T, _⟩ := r.ex
  exact T.exm
section
variable {X : Cx} {k j : Nat} {x : Str} {sp : Sp} {p pos : Pos} {e : Expr} {es : List Expr} {t : TA} {C : Addr} {W : WX} {σ : L2.St} {H : Hp} {Q : VK} {E : L2.St → XK}
theorem pmk_rz (r : Rz X.K X.prog X.mg x C) (hr : Room (k + 1) X.A) (hg : Gl X x) (hdb : (x == ("__debug__" : Str)) = false := by decide) : PMk X (.Call (.Name x p) [] [] pos) (fun _ H Q => Q (.ref C) none H) := by
  obtain ⟨fI, cc, cda, fd, me, m, j, p0, p1, p2, p3, p4, p5, T, hb, hbd⟩ := r.ex
  exact pmk_sup T hb hbd hr hg r.nm hdb
/-- a call that may raise, by its contract -/
theorem pe_cx (c : Cal (L2.CX X.prog X.w) X.prog X.w X.K X.mg X.base k x sp) (hr : Room j X.A) (hk : k ≤ j) (hg : Gl X x) (tk : Takes X W) (ha : PA X (e :: es) t)
    (hdb : (x == ("__debug__" : Str)) = false := by decide) (he : starEach (e :: es) X.env = (false, eval e X.env) :: starEach es X.env := by rfl) (hpl : (backTo pos (starEach es X.env)).any (·.1) = false := by rfl) :
    PE X (.Call (.Name x p) (e :: es) [] pos) (tCallS sp (WE W) t) := by
  obtain ⟨f, fd, ps, F, hm, kp, b⟩ := c.ex
  exact pe_callS F (hr.mono hk) hg hm kp b (fun σ => passAt tk σ) ha hdb he hpl
theorem g_callS (k : t σ H fun vs H1 => sp vs H1 Q (E σ)) : tCallS sp E t σ H Q := k
end
theorem cal_ofX {P : Program} {w : World} {K : PySem.W.Frag} {mg : Str → Option Value} {base : Heap} {f : Addr} {fd : FuncData} {x q : Str} {st : Stmt} {k : Nat} {ps : List Str} {sp : Sp} (F : Fun K x q st f fd) (m : mg x = some (.ref f)) (b : Binds K fd ps []) (ok : FnOk P w K mg base (L2.CX P w) k f fd ps sp) : Cal (L2.CX P w) P w K mg base k x sp := ⟨f, fd, ps, ok, m, F.kp, b⟩
theorem rz_mk {K : PySem.W.Frag} {P : Program} {mg : Str → Option Value} {x : Str} {C fI cc cda : Addr} {fd : FuncData} {me m : Str} {j : Nat} {p0 p1 p2 p3 p4 p5 : Pos} (hb : fd.body = .stmts [supStm m j p0 p1 p2 p3 p4 p5]) (T : SupC K P C fI cc cda fd me m j p0 p1 p2 p3 p4)
    (hbd : ∀ v : Value, bindArgs fd ⟨[v], []⟩ = pure [(me, v)]) (nm : mg x = some (.ref C)) : Rz K P mg x C := ⟨⟨fI, cc, cda, fd, me, m, j, p0, p1, p2, p3, p4, p5, T, hb, hbd⟩, nm⟩
end WZ

/-! own errors, further: several clauses with names, isinstance and fields in them; an error with a field; methods, classes and + that may raise -/
namespace WZ
open PySem PySem.Spec PyProof.Rows L2 StX
/-! ### try with several clauses, each with or without a name -/
abbrev Hd := Value × Option Nat × (Addr → Value → Option Addr → TS)
def dropN (i : Nat) (D : Ends) : Ends := { nx := fun τ G => D.nx (τ.set i none) G, rt := D.rt, bk := fun τ G => D.bk (τ.set i none) G, ct := fun τ G => D.ct (τ.set i none) G }
def asC (o : Option Nat) (ts : Addr → Value → Option Addr → TS) (cls : Value) (d : Option Addr) (D : Ends) (σ : L2.St) (H : Hp) (a : Addr) : Prop := match o with
  | none => ts a cls d D σ H
  | some i => ts a cls d (dropN i D) (σ.set i (some (.ref a))) H
def wMix (K : PySem.W.Frag) (Wout : WX) (D : Ends) : List Hd → WX
  | [] => Wout
  | (c, o, ts) :: r => fun cls d σ H => ∃ b, PySem.W.exmOne K cls c = some b ∧ (b = true → ∀ a, H a = none → asC o ts cls d D σ H a) ∧ (b = false → wMix K Wout D r cls d σ H)
inductive HdsM (X : Cx) : List ExceptHandler → List Hd → Prop
  | nil : HdsM X [] []
  | bare {x : Str} {c : Value} {ts : Addr → Value → Option Addr → TS} {b0 : Stmt} {bs : List Stmt} {np q : Pos} {hds : List ExceptHandler} {l : List Hd} (hc : Names X x c)
      (hsu : ∀ (a : Addr) (oe : Obj) (cls : Value) (d : Option Addr) (pn : List (Addr × Obj)), Zc cls d oe → (∃ vs, oe.data = .fields vs) → PSs (X.suite a ((a, oe) :: pn)) (b0 :: bs) (ts a cls d)) (r : HdsM X hds l) :
      HdsM X (.ExceptHandler (some (.Name x np)) none (b0 :: bs) q :: hds) ((c, none, ts) :: l)
  | named {x n : Str} {c : Value} {i : Nat} {ts : Addr → Value → Option Addr → TS} {b0 : Stmt} {bs : List Stmt} {np q : Pos} {hds : List ExceptHandler} {l : List Hd} (hN : X.N.Nodup) (hi : X.N[i]? = some n) (hln : X.env.kindOf n = some .local) (hc : Names X x c)
      (hsu : ∀ (a : Addr) (oe : Obj) (cls : Value) (d : Option Addr) (pn : List (Addr × Obj)), Zc cls d oe → (∃ vs, oe.data = .fields vs) → PSs (X.suite a ((a, oe) :: pn)) (b0 :: bs) (ts a cls d)) (r : HdsM X hds l) :
      HdsM X (.ExceptHandler (some (.Name x np)) (some n) (b0 :: bs) q :: hds) ((c, some i, ts) :: l)
section
variable {X : Cx} {body : List Stmt} {e0 : ExceptHandler} {hds : List ExceptHandler} {l : List Hd} {pos : Pos} {tb : WX → TS} {Wout : WX}
theorem ps_try_mix (hs : X.stack = X.env :: X.outer) (hf : X.env.frame = some X.env.locals) (tk : Takes X Wout)
    (hb : ∀ (W : WX) (pn : List (Addr × Obj)) (xe : Value → Shared → Prop), Takes (X.tr pn xe) W → PassesOwn (model X.prog X.w) X.A X.env xe → PSs (X.tr pn xe) body (tb W))
    (hh : HdsM X (e0 :: hds) l) : PS X (.Try body (e0 :: hds) [] [] pos) (fun D σ H => tb (wMix X.K Wout D l) D σ H) := by
  refine ⟨fun pins s σ H D I h => ?_⟩
  have okX := I.ok
  have frX : X.A.frames = some (X.env :: X.outer) := by rw [okX.frames, hs]
  refine wpAny_Try_except ?_
  refine wpAny_mono ((hb (wMix X.K Wout D l) (X.pn ++ pins) (fun e t1 => wpAny (model X.prog X.w) X.A (noteFrame e X.env) (fun _ t2 => wpAny (model X.prog X.w) X.A (setFlight e none) (fun _ t3 =>
    wpAny (model X.prog X.w) X.A (handleBy e X.env (e0 :: hds)) (SP X pins D) X.xe t3) X.xe t2) X.xe t1) (fun u t0 xx => ?_) PassesOwn.looking).run [] s σ H D (I.toTry _) h) (fun f t1 sp => ?_) (fun e t1 z => z)
  · obtain ⟨a, B, tI, pn1, τ, G, cl, dt, rfl, U', nb, up, sk, na, os, ag, w⟩ := xx
    have U : Inv X pins τ G tI := U'.ofTry okX
    have sk1 : Sky B (X.env :: X.outer) a (Zc cl dt) X.env.locals t0.heap := by rw [← hs]; exact sk
    show wpAny (model X.prog X.w) X.A (noteFrame (.ref a) X.env) _ _ _
    refine Sky.land Zc.steady frX hf sk1 fun k3 fy3 up3 => ?_
    have U3 : Inv X pins τ G { t0 with heap := k3 } := U.landed nb fy3.1 (up.trans up3) os ag
    obtain ⟨o3, w3, g3, z3, d3⟩ := fy3.there
    have off : ∀ {k : Heap} {o : Obj} {ws : Array Value}, k.FunFrames B (X.env :: X.outer) → k.get? a = some o → o.data = .fields ws → a ∉ frs (X.env :: X.outer) := fun {k o ws} ff g dd hm => by
      obtain ⟨_, o1, g1, nf⟩ := ff.mem hm
      rw [g] at g1; cases g1
      exact nf _ dd
    have off3 := off fy3.2.2.1 g3 d3
    have nL : a ≠ X.env.locals := fun z => off3 (List.mem_filterMap.mpr ⟨X.env, List.mem_cons_self, by rw [hf, z]⟩)
    have nF : a ∉ X.fs := fun hm => by
      obtain ⟨e, m1, m2⟩ := List.mem_filterMap.mp hm
      exact off3 (List.mem_filterMap.mpr ⟨e, List.mem_cons_of_mem _ m1, m2⟩)
    have S3 := U3.suite g3 d3 na nL nF
    have test : ∀ {x : Str} {c : Value} {np : Pos} {Q : Value → Shared → Prop} {E : Value → Shared → Prop}, Names X x c → Q c { t0 with heap := k3 } → wpAny (model X.prog X.w) (X.A.mark (some (.ref a))) (eval (.Name x np) X.env) Q E { t0 with heap := k3 } := fun {x c np Q E} hc q => by
      obtain ⟨hg, hd, hm | ⟨hm, hv, hn⟩⟩ := hc
      · exact ld_glob (X := X.suite a ((a, o3) :: (X.pn ++ pins))) S3 hg hm q hd
      · exact ld_blt (X := X.suite a ((a, o3) :: (X.pn ++ pins))) S3 hg hm hv q hn hd
    have LT : PySem.W.Looks (model X.prog X.w) k3 (typeOf (.ref a)) cl := fun A Q E s k q => wpAny_typeOf_ref (k _ _ g3) (by rw [z3.1]; exact q)
    have go : ∀ {hs1 : List ExceptHandler} {l1 : List Hd}, HdsM X hs1 l1 → wMix X.K Wout D l1 cl dt τ G → wpAny (model X.prog X.w) X.A (handleBy (.ref a) X.env hs1) (SP X pins D) X.xe { t0 with heap := k3 } := by
      intro hs1 l1 hk
      induction hk with
      | nil =>
        intro w
        refine wpAny_handleBy_nil ?_
        obtain ⟨y1, y2, y3, oz, ws, T, oT, tz, g, z, dd, at1, ar⟩ := id fy3
        unfold PySem.passOn
        refine wpAny_bind (wpAny_field g dd at1 ?_)
        rw [if_neg (show ¬ ((Value.ref T == Value.none) = true) by simp)]
        have fin : wpAny (model X.prog X.w) X.A (setFlight (.ref a) X.env.frame) (fun _ t4 => wpAny (model X.prog X.w) X.A (throw (.ref a) : Sem Flow) (SP X pins D) X.xe t4) X.xe { t0 with heap := k3 } := by
          rw [hf]
          refine HandSPX.setFlight_upZ fy3 fun k4 hk4 up4 => wpAny_throw (tk _ _ ?_)
          exact ⟨a, B, tI, pins, τ, G, cl, dt, rfl, U, nb, (up.trans up3).trans up4, .inr (.inr (by rw [hs]; exact hk4)), na, os, ag, w⟩
        first
          | exact wpAny_bind (wpAny_pure (wpAny_bind fin))
          | exact wpAny_bind fin
      | @bare x c ts b0 bs np q hs2 l2 hc hsu r ih =>
        intro w
        obtain ⟨b, ex, yes, no⟩ := w
        refine wpAny_handleBy_cons (codeAny_handlers_test ?_) (by intro z; cases z)
        refine test hc ((PySem.W.exm_one (M := model X.prog X.w) U3.kIn LT ex).here ?_)
        cases b with
        | true =>
          refine codeAny_handlers_suite ?_
          refine HandSPX.lands_againZ fy3 fun k4 fy4 up4 => ?_
          have U4 : Inv X pins τ G { t0 with heap := k4 } := U.landed nb fy4.1 ((up.trans up3).trans up4) os ag
          obtain ⟨o4, w4, g4, z4, d4⟩ := fy4.there
          refine wpAny_mono ((hsu a o4 cl dt (X.pn ++ pins) z4 ⟨_, d4⟩).run [] _ _ G _ (U4.suite g4 d4 na nL nF) (yes rfl a na)) (fun f t6 sp => ?_) (fun _ _ z => False.elim z)
          cases f with
          | next => exact let ⟨_, _, S6, q6⟩ := sp; ⟨_, _, S6.unsuite okX, q6⟩
          | brk => exact let ⟨_, _, S6, q6⟩ := sp; ⟨_, _, S6.unsuite okX, q6⟩
          | cont => exact let ⟨_, _, S6, q6⟩ := sp; ⟨_, _, S6.unsuite okX, q6⟩
          | ret u => exact let ⟨_, _, _, S6, r6, q6⟩ := sp; ⟨_, _, _, S6.unsuite okX, r6, q6⟩
        | false =>
          show wpAny _ X.A (handleBy (.ref a) X.env hs2) _ _ _
          exact ih (no rfl)
      | @named x n c i ts b0 bs np q hs2 l2 hN hi hln hc hsu r ih =>
        intro w
        obtain ⟨b, ex, yes, no⟩ := w
        have lcn : Loc X.env.scope n := .inl hln
        refine wpAny_handleBy_cons (codeAny_handlers_test ?_) (by intro z; cases z)
        refine test hc ((PySem.W.exm_one (M := model X.prog X.w) U3.kIn LT ex).here ?_)
        cases b with
        | true =>
          refine codeAny_handlers_suite_as ?_
          refine HandSPX.lands_againZ fy3 fun k4 fy4 up4 => ?_
          have U4 : Inv X pins τ G { t0 with heap := k4 } := U.landed nb fy4.1 ((up.trans up3).trans up4) os ag
          obtain ⟨o4, w4, g4, z4, d4⟩ := fy4.there
          refine store_ok (X := X.suite a ((a, o4) :: (X.pn ++ pins))) (v := .ref a) (U4.suite g4 d4 na nL nF) hN hi lcn rfl (fun t5 S5 => ?_) (.inr hln)
          refine wpAny_mono ((hsu a o4 cl dt (X.pn ++ pins) z4 ⟨_, d4⟩).run [] t5 _ G _ S5 (yes rfl a na)) (fun f t6 sp => ?_) (fun _ _ z => False.elim z)
          have endN : ∀ {τ6 : L2.St} {G6 : Hp} {R : Shared → Prop}, Inv (X.suite a ((a, o4) :: (X.pn ++ pins))) [] τ6 G6 t6 → (∀ t7, Inv X pins (τ6.set i none) G6 t7 → R t7) →
              wpAny (model X.prog X.w) X.A (do bindName X.env n .none; unbindBehindTheSuite X.env n q) (fun _ t7 => R t7) X.xe t6 := fun {τ6 G6 R} S6 hq => gone_ok (S6.unsuite okX) hN hi hln hq
          cases f with
          | next => exact let ⟨_, _, S6, q6⟩ := sp; endN S6 fun t7 U7 => ⟨_, _, U7, q6⟩
          | brk => exact let ⟨_, _, S6, q6⟩ := sp; endN S6 fun t7 U7 => ⟨_, _, U7, q6⟩
          | cont => exact let ⟨_, _, S6, q6⟩ := sp; endN S6 fun t7 U7 => ⟨_, _, U7, q6⟩
          | ret u => exact let ⟨_, _, _, S6, r6, q6⟩ := sp; endN S6 fun t7 U7 => ⟨_, _, _, U7, r6, q6⟩
        | false =>
          show wpAny _ X.A (handleBy (.ref a) X.env hs2) _ _ _
          exact ih (no rfl)
    exact go hh w
  · cases f with
    | next => exact let ⟨τ, G, U, q⟩ := sp; wpAny_execs_nil ⟨τ, G, U.ofTry okX, q⟩
    | brk => exact let ⟨τ, G, U, q⟩ := sp; ⟨τ, G, U.ofTry okX, q⟩
    | cont => exact let ⟨τ, G, U, q⟩ := sp; ⟨τ, G, U.ofTry okX, q⟩
    | ret u => exact let ⟨v, τ, G, U, r, q⟩ := sp; ⟨v, τ, G, U.ofTry okX, r, q⟩
end
/-! ### isinstance of the error; its field -/
def rIsX (K : PySem.W.Frag) (a : Addr) (cls : Value) (d : Option Addr) : List V → Hp → VK → Prop := fun xs H Q => ∃ (D : Addr) (c : V) (cv : Value) (b : Bool), xs = [.ref a, c] ∧ cls = .ref D ∧ d = none ∧ ExcC K D ∧ (∀ u, RelV c u → u = cv) ∧ PySem.W.kitOne K (.ref D) cv = some b ∧ Q (.bl b) H
theorem cr_isX {X : Cx} {a : Addr} {oe : Obj} {cls : Value} {d : Option Addr} {pn : List (Addr × Obj)} (hz : Zc cls d oe) (hf : ∃ vs, oe.data = .fields vs) : CallR (X.suite a ((a, oe) :: pn)) (.builtin "isinstance") (rIsX X.K a cls d) := by
  intro pins s σ H xs us Q I r h
  obtain ⟨D, c, cv, b, h1, rfl, rfl, hC, h3, h4, h5⟩ := h
  exact call_isE hC hz hf pins s σ H xs us Q I r ⟨c, cv, b, h1, h3, h4, h5⟩
theorem g_isX {K : PySem.W.Frag} {a D : Addr} {c : Addr} {b : Bool} {H : Hp} {Q : VK} (hC : ExcC K D) (hk : PySem.W.kitOne K (.ref D) (.ref c) = some b) (k : Q (.bl b) H) : rIsX K a (.ref D) none [.ref a, .ref c] H Q :=
  ⟨D, .ref c, .ref c, b, rfl, rfl, rfl, hC, fun u r => r, hk, k⟩
/-! ### C(e) where C's __init__(self, f) says super().__init__(text); self.f = f -/
structure SupF (K : PySem.W.Frag) (C : Addr) (fd : FuncData) (me arg fld : Str) (pa pb pc pd : Pos) : Prop where
  ox : OexC K C
  xf : XfC K C
  hno : PySem.W.findIn K (.ref C) fld = some none
  sArg : fd.scope.names.lookup arg = some .local
  ne : arg ≠ me
  sSw : ∀ L a : Addr, swapsWith (.Name arg pc) (some (.Attribute (.Name me pa) fld pb)) pd.line (callEnv fd L a) = pure false
  dbM : (me == ("__debug__" : Str)) = false
  dbA : (arg == ("__debug__" : Str)) = false
def tMkF (C : Addr) (fld : Str) (te : TE) : L2.St → Hp → XK → Prop := fun σ H Q => te σ H fun y H1 => ∀ dx, H1 dx = none → Q (.ref C) (some dx) (upd H1 dx (.xd [(fld, y)]))
def oneV (P : V → Hp → Prop) : List V → Hp → Prop := fun vs H => match vs with
  | [y] => P y H
  | _ => False
theorem oneV_inv {P : V → Hp → Prop} {vs : List V} {H : Hp} (h : oneV P vs H) : ∃ y, vs = [y] ∧ P y H := by
  match vs, h with
  | [y], h => exact ⟨y, rfl, h⟩
  | [], h => exact h.elim
  | _ :: _ :: _, h => exact h.elim
theorem pmk_supF {X : Cx} {C fI cc cda : Addr} {fd : FuncData} {me x m fld arg : Str} {k j : Nat} {p pos p0 p1 p2 p3 p4 p5 pa pb pc pd : Pos} {e : Expr} {te : TE} (T : SupC X.K X.prog C fI cc cda fd me m j p0 p1 p2 p3 p4) (SF : SupF X.K C fd me arg fld pa pb pc pd)
    (hb : fd.body = .stmts [supStm m j p0 p1 p2 p3 p4 p5, .Assign [.Attribute (.Name me pa) fld pb] (.Name arg pc) pd]) (hbd : ∀ v u : Value, bindArgs fd ⟨[v, u], []⟩ = pure [(me, v), (arg, u)])
    (hr : Room (k + 1) X.A) (hg : Gl X x) (hm : X.mg x = some (.ref C)) (he : PE X e te) (hdb : (x == ("__debug__" : Str)) = false := by decide) (hst : starEach [e] X.env = (false, eval e X.env) :: starEach [] X.env := by rfl) :
    PMk X (.Call (.Name x p) [e] [] pos) (tMkF C fld te) := by
  intro pins s σ H Q I h
  obtain ⟨nm, q, N, bs, bm, sn, sub, ab, col, dd, k0, k1, k2, k3, k5, hC, hbm⟩ := SF.ox.cls
  obtain ⟨oc, od, sl, hfn⟩ := T.fn
  have hcl : PySem.W.clsIn X.K C = some { name := nm, bases := bs, mro := .ref C :: bm, ns := N, qualname := q, hasDict := true, slotNames := sn, subclasses := sub, abstract := ab, collection := col, hasDel := false } := by
    unfold PySem.W.clsIn
    rw [hC] <;> rfl
  refine wpAny_Call_Name_kw (ld_glob I hg hm ?_ hdb)
  refine PySem.W.callWith_K (h₀ := X.base) I.ok.mod.kin T.kC (thn ((pa_cons he pa_nil hst).run pos pins s σ H (oneV fun y H1 => ∀ dx, H1 dx = none → Q (.ref C) (some dx) (upd H1 dx (.xd [(fld, y)]))) I h) fun us s1 zz => ?_) hst rfl
  obtain ⟨vs, H1, I1, r1, hq0⟩ := zz
  obtain ⟨y, rfl, hq⟩ := oneV_inv hq0
  clear hq0
  obtain ⟨u, rfl, ry⟩ := vals1 r1
  refine ⟨I1.kIn, ?_⟩
  show wpAny _ _ (call (.ref C) [u]) _ _ _
  obtain ⟨hp, g, dr, tk, os⟩ := s1
  have kk : ∀ b o, hp.get? b = some o → ((hp.push (PySem.W.kdv_tup [u])).push (PySem.HandSPX.excO C hp.objs.size)).get? b = some o := fun b o z => Heap.get?_push_of_some _ (Heap.get?_push_of_some _ z)
  have ge : ((hp.push (PySem.W.kdv_tup [u])).push (PySem.HandSPX.excO C hp.objs.size)).get? (hp.objs.size + 1) = some (PySem.HandSPX.excO C hp.objs.size) := by heap_get
  have kin : X.K.In hp := I1.kIn
  refine wpAny_call (PySem.HandSPX.call_own F.excBase_ValueError (fun Y => PySem.HandSPX.refsVE_contains Y bm hbm) (kin _ _ hC) (PySem.W.looks_findIn kin T.ini) (fun z => PySem.W.bind_fn kin z T.tyI) (by show 1 ≤ sizeLine; rw [sizeLine_eq]; omega) ?_)
  refine ks_codeAny_call_defAt (binds := [(me, .ref (hp.objs.size + 1)), (arg, u)]) (hr.make C [u] []).depth (kk _ _ (kin _ _ hfn)) rfl (I1.ok.mod.nolimit.keeps fun b o z => kk b o (I1.bk b o z)) (T.cdv ▸ PySem.W.codeRec_of (kin.keeps kk) T.cin) hb (BindsTo.of_eq (hbd _ _)) T.sCell ?_ (fun h0 hns hk => ?_) T.sCo T.sGen T.sFun
  · intro z hz
    rcases List.mem_cons.mp hz with e1 | e1
    · rw [e1]
      exact T.sSelf
    · rw [List.mem_singleton.mp e1]
      exact SF.sArg
  have kk0 : ∀ b o, hp.get? b = some o → h0.get? b = some o := fun b o z => hk b o (kk b o z)
  obtain ⟨mb, b1, b2⟩ := I1.mod.blt
  have nb : ∀ {b : Addr} {o : Obj}, hp.get? b = some o → b ≠ hp.objs.size + 1 := fun {b o} z => Nat.ne_of_lt (Nat.lt_succ_of_lt (Heap.lt_size z))
  have bM : (List.reverse [(me, Value.ref (hp.objs.size + 1)), (arg, u)]).lookup me = some (.ref (hp.objs.size + 1)) := by
    show List.lookup me [(arg, u), (me, Value.ref (hp.objs.size + 1))] = _
    have e1 : (me == arg) = false := beq_eq_false_iff_ne.mpr fun z => SF.ne z.symm
    simp [List.lookup, e1]
  refine ks_wpAt_execs_cons (sup_stmt T (kin.keeps kk0) (I1.mod.glob.keeps fun b o z => kk0 b o (I1.bk b o z)) ⟨mb, b1.keeps fun b o z => kk0 b o (I1.bk b o z), b2⟩ (hk _ _ ge) hns bM fun h3 tk3 t1 k3' e3 => ?_)
  have kk3 : ∀ b o, hp.get? b = some o → h3.get? b = some o := fun b o z => k3' b o (nb z) (kk0 b o z)
  have kin3 : X.K.In h3 := kin.keeps kk3
  have hL : ((hp.push (PySem.W.kdv_tup [u])).push (PySem.HandSPX.excO C hp.objs.size)).objs.size ≠ hp.objs.size + 1 := by
    rw [Heap.size_push, Heap.size_push]
    omega
  have hns3 := hns.at (h' := h3) fun o z => k3' _ o hL z
  have bA : (List.reverse [(me, Value.ref (hp.objs.size + 1)), (arg, u)]).lookup arg = some u := by simp [List.lookup]
  refine ks_wpAt_execs_cons (wpAt_of_wpAny (plainObj_wpAny_Assign_Attribute (PySem.ESX.ldL (m := fun x => (List.reverse [(me, Value.ref (hp.objs.size + 1)), (arg, u)]).lookup x) hns3 bA ?_ T.sFun SF.sArg SF.dbA) (SF.sSw _ _)))
  refine PySem.ESX.ldL (m := fun x => (List.reverse [(me, Value.ref (hp.objs.size + 1)), (arg, u)]).lookup x) hns3 bM ?_ T.sFun T.sSelf SF.dbM
  refine PySem.W.set_plain kin3 (ox := PySem.HandSPX.excO C t1) (od := none) ⟨e3, rfl, rfl, trivial⟩ SF.ox.sa ?_
  refine PySem.HandSPX.exc_osa kin3 e3 hcl (show PySem.HandSPX.refsVE (.ref C :: bm) = true from hbm) rfl SF.hno fun h4 tk4 dx k4 dn dne hx hn => ?_
  refine wpAt_of_wpAny (wpAny_execs_nil ?_)
  obtain ⟨G, g1, g2⟩ := restrict h4 fun b => decide (b ≠ hp.objs.size + 1)
  have gk : ∀ b, b ≠ hp.objs.size + 1 → G.get? b = h4.get? b := fun b z => g1 b (decide_eq_true z)
  have gn : G.get? (hp.objs.size + 1) = none := g2 _ (by simp)
  have dl : hp.objs.size ≤ dx := by
    have : hp.objs.size + 1 < h3.objs.size := Heap.lt_size e3
    have d2 : h3.objs.size ≤ dx := dn
    omega
  have J : Inv X pins σ (upd H1 dx (.xd [(fld, y)])) ⟨G, g, dr, tk4, os⟩ := I1.laid (t' := tk4) (h' := G) (a := dx) (o := .xd [(fld, y)]) (fun b o z => (gk b (nb z)).trans (k4 b o (nb z) (kk3 b o z))) dl ⟨_, hn.at fun o z => (gk dx dne).trans z, relO_put (fs := []) ry fun g => True.intro⟩
  refine ⟨rfl, hp.objs.size + 1, _, _, ⟨G, g, dr, tk4, os⟩, _, .ref C, some dx, rfl, J, fun b o z => ?_, gn, hx, ⟨rfl, rfl⟩, rfl, rfl, ?_, rfl, I1.bare, raises_own T.exC T.tyC, hq dx (I1.hok.fresh dl)⟩
  · by_cases hb : b = hp.objs.size + 1
    · rw [hb, gn] at z
      cases z
    · exact (gk b hb).symm.trans z
  · rw [upd_ne (Ne.symm dne)]
    exact I1.hok.fresh (Nat.le_succ _)
theorem g_mkF {C : Addr} {fld : Str} {te : TE} {σ : L2.St} {H : Hp} {Q : XK} (k : te σ H fun y H1 => ∀ dx, H1 dx = none → Q (.ref C) (some dx) (upd H1 dx (.xd [(fld, y)]))) : tMkF C fld te σ H Q := k
/-! ### the field of the error -/
def xXf (a : Addr) (cls : Value) (d : Option Addr) (C : Addr) (f : Str) (Q : VK) : VK := fun x H1 => x = .ref a ∧ cls = .ref C ∧ ∃ (dd : Addr) (fs : List (Str × V)) (v : V), d = some dd ∧ H1 dd = some (.xd fs) ∧ fs.lookup f = some v ∧ Q v H1
theorem g_xf {a C : Addr} {cls : Value} {d : Option Addr} {f : Str} {te : TE} {σ : L2.St} {H : Hp} {Q : VK} (k : te σ H (xXf a cls d C f Q)) : tXf a cls d C f te σ H Q := k
theorem g_xXf {a C dd : Addr} {f : Str} {H : Hp} {Q : VK} {v : V} (e : H dd = some (.xd [(f, v)])) (k : Q v H) : xXf a (.ref C) (some dd) C f Q (.ref a) H := ⟨rfl, rfl, dd, _, v, rfl, e, by simp [List.lookup], k⟩
/-- the class of such an error by its name -/
structure RzF (K : PySem.W.Frag) (P : Program) (mg : Str → Option Value) (x fld : Str) (C : Addr) : Prop where
  ex : ∃ (fI cc cda : Addr) (fd : FuncData) (me arg m : Str) (j : Nat) (p0 p1 p2 p3 p4 p5 pa pb pc pd : Pos), SupC K P C fI cc cda fd me m j p0 p1 p2 p3 p4 ∧ SupF K C fd me arg fld pa pb pc pd ∧
    fd.body = .stmts [supStm m j p0 p1 p2 p3 p4 p5, .Assign [.Attribute (.Name me pa) fld pb] (.Name arg pc) pd] ∧ ∀ v u : Value, bindArgs fd ⟨[v, u], []⟩ = pure [(me, v), (arg, u)]
  nm : mg x = some (.ref C)
theorem RzF.exm {K : PySem.W.Frag} {P : Program} {mg : Str → Option Value} {x fld : Str} {C : Addr} (r : RzF K P mg x fld C) : PySem.W.exmOne K (.ref C) (.ref C) = some true := by
  obtain ⟨_, _, _, _, _, _, _, _, _, _, _, _, _, _, _, _, _, _, T, _⟩ := r.ex
  exact T.exm
theorem RzF.xf {K : PySem.W.Frag} {P : Program} {mg : Str → Option Value} {x fld : Str} {C : Addr} (r : RzF K P mg x fld C) : XfC K C := by
  obtain ⟨_, _, _, _, _, _, _, _, _, _, _, _, _, _, _, _, _, _, _, F, _⟩ := r.ex
  exact F.xf
theorem RzF.hno {K : PySem.W.Frag} {P : Program} {mg : Str → Option Value} {x fld : Str} {C : Addr} (r : RzF K P mg x fld C) : PySem.W.findIn K (.ref C) fld = some none := by
  obtain ⟨_, _, _, _, _, _, _, _, _, _, _, _, _, _, _, _, _, _, _, F, _⟩ := r.ex
  exact F.hno
theorem pmk_rzF {X : Cx} {x fld : Str} {C : Addr} {k : Nat} {p pos : Pos} {e : Expr} {te : TE} (r : RzF X.K X.prog X.mg x fld C) (hr : Room (k + 1) X.A) (hg : Gl X x) (he : PE X e te) (hdb : (x == ("__debug__" : Str)) = false := by decide)
    (hst : starEach [e] X.env = (false, eval e X.env) :: starEach [] X.env := by rfl) : PMk X (.Call (.Name x p) [e] [] pos) (tMkF C fld te) := by
  obtain ⟨_, _, _, _, _, _, _, _, _, _, _, _, _, _, _, _, _, _, T, F, hb, hbd⟩ := r.ex
  exact pmk_supF T F hb hbd hr hg r.nm he hdb hst
theorem rzF_mk {K : PySem.W.Frag} {P : Program} {mg : Str → Option Value} {x fld : Str} {C fI cc cda : Addr} {fd : FuncData} {me arg m : Str} {j : Nat} {p0 p1 p2 p3 p4 p5 pa pb pc pd : Pos} (hb : fd.body = .stmts [supStm m j p0 p1 p2 p3 p4 p5, .Assign [.Attribute (.Name me pa) fld pb] (.Name arg pc) pd])
    (T : SupC K P C fI cc cda fd me m j p0 p1 p2 p3 p4) (F : SupF K C fd me arg fld pa pb pc pd) (hbd : ∀ v u : Value, bindArgs fd ⟨[v, u], []⟩ = pure [(me, v), (arg, u)]) (nm : mg x = some (.ref C)) : RzF K P mg x fld C :=
  ⟨⟨fI, cc, cda, fd, me, arg, m, j, p0, p1, p2, p3, p4, p5, pa, pb, pc, pd, T, F, hb, hbd⟩, nm⟩
/-! ### what may raise: a method, a class, + -/
section
variable {X : Cx} {W : WX} {k j : Nat} {x m : Str} {sp : Sp} {p pos apos : Pos} {e o : Expr} {es : List Expr} {ta tb : TE} {t : TA} {C : Addr}
def tMethS (C : Addr) (m : Str) (sp : Sp) (E : L2.St → XK) (ta : TE) (t : TA) : TE := fun σ H Q => ta σ H (xMe C m sp (E σ) t σ Q)
theorem pe_meX (c : Met (L2.CX X.prog X.w) X.prog X.w X.K X.mg X.base k C m sp) (hr : Room j X.A) (hk : k ≤ j) (tk : Takes X W) (ho : PE X o ta) (ha : PA X (e :: es) t) {pl : Sem Bool}
    (hst : starEach (e :: es) X.env = (false, eval e X.env) :: starEach es X.env := by rfl) (hpl : (backTo pos (starEach es X.env)).any (·.1) = false := by rfl)
    (ht : eval (.Call (.Attribute o m apos) (e :: es) [] pos) X.env = (do
      let ov ← eval o X.env
      standAt apos.atName
      let (f, first) ← holding [ov] (getMethod ov m pl)
      callWith pos f first (backTo pos (starEach (e :: es) X.env)) (backToKw pos (keywordEach [] X.env))) := by rfl) : PE X (.Call (.Attribute o m apos) (e :: es) [] pos) (tMethS C m sp (WE W) ta t) := by
  obtain ⟨f, fd, ps, F, hm, cl, b⟩ := c.ex
  refine ⟨fun pins s σ H Q I h => PySem.W.methodCall_KW (pl := pl) (thn (ho.run pins s σ H _ I h) fun u s1 zz => ?_) ht⟩
  obtain ⟨y, H1, I1, ry, a, dx, fs, ey, ea, nl, q⟩ := zz
  subst ey
  cases (show u = Value.ref a from ry)
  refine getmeth_ok I1 ea cl hm nl (PySem.W.callWith_K (first := [.ref a]) (h₀ := X.base) I.ok.mod.kin hm.kp (thn (ha.run pos pins s1 σ H1 _ I1 q) fun us s2 zz => ?_) hst hpl)
  obtain ⟨vs, H2, I2, rr, q2⟩ := zz
  exact ⟨I2.kIn, run_fnS (us := .ref a :: us) (vs := .ref a :: vs) F (hr.mono hk) b (passAt tk σ) I2 (.cons rfl rr) q2⟩
def tMakeS (C : Addr) (sp : Sp) (E : L2.St → XK) (t : TA) : TE := fun σ H Q => t σ H (xMk C sp (E σ) Q)
theorem pe_mkX (c : Mak (L2.CX X.prog X.w) X.prog X.w X.K X.mg X.base k x C sp) (hr : Room j X.A) (hk : k + 1 ≤ j) (hg : Gl X x) (tk : Takes X W) (ha : PA X (e :: es) t)
    (hdb : (x == ("__debug__" : Str)) = false := by decide) (hst : starEach (e :: es) X.env = (false, eval e X.env) :: starEach es X.env := by rfl) (hpl : (backTo pos (starEach es X.env)).any (·.1) = false := by rfl) :
    PE X (.Call (.Name x p) (e :: es) [] pos) (tMakeS C sp (WE W) t) := by
  obtain ⟨f, fd, ps, M, F, hm, b⟩ := c.ex
  refine ⟨fun pins s σ H Q I h => ?_⟩
  refine wpAny_Call_Name_kw (ld_glob I hg hm ?_ hdb)
  refine PySem.W.callWith_K (h₀ := X.base) I.ok.mod.kin M.kp (thn (ha.run pos pins s σ H _ I h) fun us s1 zz => ?_) hst hpl
  obtain ⟨vs, H1, I1, rr, q⟩ := zz
  refine ⟨I1.kIn, ?_⟩
  have nx : H1 (s1.heap.objs.size + 1) = none := I1.hok.fresh (Nat.le_succ _)
  have nd : H1 s1.heap.objs.size = none := I1.hok.fresh (Nat.le_refl _)
  have hq := q (s1.heap.objs.size + 1) s1.heap.objs.size nx nd (Nat.ne_of_lt (Nat.lt_succ_self _))
  have U := Inv.made (C := C) I1
  have rs : Vals (V.ref (s1.heap.objs.size + 1) :: vs) (Value.ref (s1.heap.objs.size + 1) :: us) := .cons rfl rr
  have hl : (Value.ref (s1.heap.objs.size + 1) :: us).length = ps.length := by
    have z := rs.length
    rw [F.len _ _ _ _ hq] at z
    exact z.symm
  have bb := b _ (Value.ref (s1.heap.objs.size + 1) :: us) U.kIn (by rw [List.append_nil]; exact hl)
  rw [List.append_nil] at bb
  refine wpAny_call (make_map (f := f) I1.kIn M.makes M.init (beq_iff_eq.mp M.fn) (codeAny_mono (F.run _ X.stack _ _ ⟨Value.ref (s1.heap.objs.size + 1) :: us, []⟩ (Value.ref (s1.heap.objs.size + 1) :: us) _ _ (WE W σ) ((hr.mono hk).make C us []) (U.env0.make C us []) bb rs hq) fun r s2 z => ?_))
  cases r with
  | error er => exact passAt tk σ pins _ _ er s2 U z
  | ok fl =>
    cases fl with
    | ret u => exact let ⟨v, H2, U2, rv, ev, q3⟩ := U.after z; ⟨by subst ev; exact rv, ⟨V.ref (s1.heap.objs.size + 1), H2, U2, rfl, q3⟩⟩
    | next => exact False.elim z
    | brk => exact False.elim z
    | cont => exact False.elim z
theorem g_meS {E : L2.St → XK} {σ : L2.St} {H : Hp} {Q : VK} (h : ta σ H (xMe C m sp (E σ) t σ Q)) : tMethS C m sp E ta t σ H Q := h
theorem g_makeS {E : L2.St → XK} {σ : L2.St} {H : Hp} {Q : VK} (h : t σ H (xMk C sp (E σ) Q)) : tMakeS C sp E t σ H Q := h
end
/-- an own + -/
structure Ads (CX : CXT) (P : Program) (w : World) (K : PySem.W.Frag) (mg : Str → Option Value) (base : Heap) (k : Nat) (C : Addr) (sp : Sp) : Prop where
  ex : ∃ (f : Addr) (fd : FuncData) (ps : List Str), FnOk P w K mg base CX k f fd ps sp ∧ PySem.W.findIn K (.ref C) "__add__" = some (some (.ref f)) ∧ PySem.W.isFn K (.ref f) = true ∧ PySem.W.selfFirst K C = true ∧ Binds K fd ps []
theorem own_add {prog : Program} {w : World} {A : Around} {E : Value → Shared → Prop} {s : Shared} {K : PySem.W.Frag} {a b C f : Addr} {oa ob : Obj} {da db : Option Obj} {Q : Value → Shared → Prop} (X : K.In s.heap) (I : PySem.W.InstAt s.heap a oa C da) (J : PySem.W.InstAt s.heap b ob C db)
    (hc : PySem.W.selfFirst K C = true) (hs : PySem.W.findIn K (.ref C) "__add__" = some (some (.ref f))) (hf : PySem.W.isFn K (.ref f) = true)
    (h : wpAny (model prog w) A (call (.ref f) [.ref a, .ref b]) (PySem.W.CmpBack Q) E s) : wpAny (model prog w) A (binaryOp .Add (.ref a) (.ref b)) Q E s := by
  obtain ⟨cd, rest, hcd, hm⟩ := PySem.W.ksp_first hc
  have one := PySem.W.ksp_try (name := "__add__") X I hs hf h
  obtain ⟨hh, g, d, tt, os⟩ := s
  have L1 : PySem.W.Looks (model prog w) hh (typeOf (.ref a)) (.ref C) := I.type
  have L2 : PySem.W.Looks (model prog w) hh (typeOf (.ref b)) (.ref C) := J.type
  have L3 : PySem.W.Looks (model prog w) hh (fillsNumberSlot (.ref C) "add") true := PySem.W.fills_K X hcd hm hs
  have he : (Value.ref C == Value.ref C) = true := by simp
  unfold binaryOp
  refine wpAny_holding (wpAny_bind ?_)
  show wpAny _ _ (binaryOp1 "add" (.ref a) (.ref b)) _ _ _
  unfold binaryOp1
  refine wpAny_bind (L1.at (wpAny_bind (L2.at (wpAny_bind (L3.at ?_)))))
  rw [he]
  simp only [if_true]
  refine wpAny_bind (wpAny_pure ?_)
  simp only [Bool.and_false, Bool.false_and, Bool.false_eq_true, if_false, if_true, Bool.and_self]
  ksp_lk
  refine wpAny_mono one (fun r s' hr' => ?_) fun _ _ e => e
  obtain ⟨v, rfl, hq⟩ := hr'
  ksp_lk
  exact hq
def rAddI (C : Addr) (sp : Sp) (E : XK) (Q : VK) : V → V → Hp → Prop := fun x y H => ∃ a b dx dy fs gs, x = .ref a ∧ y = .ref b ∧ H a = some (.ins C dx fs) ∧ H b = some (.ins C dy gs) ∧ sp [.ref a, .ref b] H (fun v H' => ∃ c : Addr, v = .ref c ∧ Q (.ref c) H') E
def tAddS (C : Addr) (sp : Sp) (E : L2.St → XK) (ta tb : TE) : TE := fun σ H Q => ta σ H fun x H1 => tb σ H1 fun y H2 => rAddI C sp (E σ) Q x y H2
theorem pe_addX {CX : CXT} {X : Cx} {k j : Nat} {C : Addr} {sp : Sp} {E : L2.St → XK} {a b : Expr} {ta tb : TE} {pos : Pos} (c : Ads CX X.prog X.w X.K X.mg X.base k C sp) (hr : Room j X.A) (hk : k ≤ j) (hx : ∀ σ, PassesAt CX X σ (E σ)) (ha : PE X a ta) (hb : PE X b tb) :
    PE X (.BinOp a .Add b pos) (tAddS C sp E ta tb) := by
  obtain ⟨f, fd, ps, F, hs, hf, hc, bi⟩ := c.ex
  refine ⟨fun pins s σ H Q I h => wpAny_BinOp (binT ha hb I (R := fun x y H2 => rAddI C sp (E σ) Q x y H2) h fun v u s2 x y H2 I2 rx ry q => ?_)⟩
  obtain ⟨p, r, dx, dy, fs, gs, rfl, rfl, e1, e2, hsp⟩ := q
  cases rx
  cases ry
  obtain ⟨_, J1, _⟩ := ins_get I2.hok e1
  obtain ⟨_, J2, _⟩ := ins_get I2.hok e2
  obtain ⟨_, J1, _⟩ := J1.look
  obtain ⟨_, J2, _⟩ := J2.look
  refine own_add I2.kIn J1 J2 hc hs hf ?_
  refine thn (run_fnS (vs := [V.ref p, V.ref r]) (us := [Value.ref p, Value.ref r]) F (hr.mono hk) bi (hx σ) I2 (.cons rfl (.cons rfl .nil)) hsp) fun v s3 zz => ?_
  obtain ⟨y, H3, I3, ry, c, rfl, q⟩ := zz
  cases ry
  exact ⟨.ref c, H3, I3, rfl, q⟩
theorem g_addS {C : Addr} {sp : Sp} {E : L2.St → XK} {ta tb : TE} {σ : L2.St} {H : Hp} {Q : VK} (k : ta σ H fun x H1 => tb σ H1 fun y H2 => rAddI C sp (E σ) Q x y H2) : tAddS C sp E ta tb σ H Q := k
theorem g_rAddI {C a b dx dy : Addr} {fs gs : List (Str × V)} {sp : Sp} {E : XK} {H : Hp} {Q : VK} (h1 : H a = some (.ins C dx fs)) (h2 : H b = some (.ins C dy gs)) (k : sp [.ref a, .ref b] H (fun v H' => ∃ c : Addr, v = .ref c ∧ Q (.ref c) H') E) : rAddI C sp E Q (.ref a) (.ref b) H :=
  ⟨a, b, dx, dy, fs, gs, rfl, rfl, h1, h2, k⟩
theorem passA0 {X : Cx} (σ : L2.St) : PassesAt CX0 X σ (E0) := fun pins H s e s' I c => pass0 pins σ H s e s' I c
end WZ

/-! which clause takes an own error; isinstance(error, WheelError) -/
namespace WZ
open PySem PySem.Spec PyProof.Rows L2 StX
section
variable {K : PySem.W.Frag} {P : Program} {mg : Str → Option Value} {x fld : Str} {C D W : Addr} {b : Bool}
theorem SupC.exmAt {fI cc cda : Addr} {fd : FuncData} {me m : Str} {j : Nat} {p0 p1 p2 p3 p4 : Pos} {cls : Value} (T : SupC K P C fI cc cda fd me m j p0 p1 p2 p3 p4) (h : PySem.W.subIn K cls (.ref C) = some b) : PySem.W.exmOne K cls (.ref C) = some b := by
  obtain ⟨nm, q, N, bs, bm, hdct, sn, sub, ab, col, dd, k0, k1, k2, k3, k5, hC, _⟩ := T.cls
  have hcl : (PySem.W.clsIn K C).isSome = true := by
    unfold PySem.W.clsIn
    rw [hC] <;> rfl
  unfold PySem.W.exmOne PySem.W.kitCls
  rw [T.exC]
  simp only [hcl, T.tyC, beq_self_eq_true, Bool.and_self, if_true]
  exact h
theorem Rz.exmAt {cls : Value} (r : Rz K P mg x C) (h : PySem.W.subIn K cls (.ref C) = some b) : PySem.W.exmOne K cls (.ref C) = some b := by
  obtain ⟨_, _, _, _, _, _, _, _, _, _, _, _, _, T, _⟩ := r.ex
  exact T.exmAt h
theorem RzF.exmAt {cls : Value} (r : RzF K P mg x fld C) (h : PySem.W.subIn K cls (.ref C) = some b) : PySem.W.exmOne K cls (.ref C) = some b := by
  obtain ⟨_, _, _, _, _, _, _, _, _, _, _, _, _, _, _, _, _, _, T, _⟩ := r.ex
  exact T.exmAt h
/-- isinstance(an error of the class D, W) is True -/
structure IsE (K : PySem.W.Frag) (D W : Addr) : Prop where
  c : ExcC K D
  k : PySem.W.kitOne K (.ref D) (.ref W) = some true
theorem kit_sub (h1 : PySem.W.hasDictIn K W = true) (h2 : PySem.W.typeIn K (.ref W) = some (.type "type")) (h3 : PySem.W.subIn K (.ref D) (.ref W) = some true) : PySem.W.kitOne K (.ref D) (.ref W) = some true := by
  obtain ⟨cd, hc, _⟩ := PySem.W.any_some h1
  unfold PySem.W.kitOne
  split
  · rfl
  · unfold PySem.W.kitCls
    simp only [hc, h2, Option.isSome_some, beq_self_eq_true, Bool.and_self, if_true]
    exact h3
theorem g_isXW {a : Addr} {H : Hp} {Q : VK} (e : IsE K D W) (k : Q (.bl true) H) : rIsX K a (.ref D) none [.ref a, .ref W] H Q := g_isX e.c e.k k
/-- what a clause wishes, given that it is the one -/
theorem mix_here {Wout : WX} {E : Ends} {c : Value} {o : Option Nat} {ts : Addr → Value → Option Addr → TS} {r : List Hd} {cls : Value} {d : Option Addr} {σ : L2.St} {H : Hp} (h : PySem.W.exmOne K cls c = some true) (k : ∀ a, H a = none → asC o ts cls d E σ H a) : wMix K Wout E ((c, o, ts) :: r) cls d σ H :=
  ⟨true, h, fun _ => k, fun z => nomatch z⟩
theorem mix_next {Wout : WX} {E : Ends} {c : Value} {o : Option Nat} {ts : Addr → Value → Option Addr → TS} {r : List Hd} {cls : Value} {d : Option Addr} {σ : L2.St} {H : Hp} (h : PySem.W.exmOne K cls c = some false) (k : wMix K Wout E r cls d σ H) : wMix K Wout E ((c, o, ts) :: r) cls d σ H :=
  ⟨false, h, (fun z => nomatch z), fun _ => k⟩
theorem g_dropN {i : Nat} {D : Ends} {σ : L2.St} {H : Hp} (k : D.nx (σ.set i none) H) : (dropN i D).nx σ H := k
end
end WZ

set_option maxHeartbeats 4000000
namespace WZ
open PySem PySem.Spec PyProof.Rows L2 StX
def topS (i : Nat) : Stmt := PySem.Challenge.pw_wheelsizes_k14_walks_refused.main.body.getD i (.Pass ⟨0, 0, 0, 0⟩)
/-! my own short words for a reading's steps -/
local macro_rules | `(tactic| walk_at "th") => `(tactic| first
  | exact Th.refl _
  | ((refine' Th.trans ?ha (Kp.th ?hb)); (case hb => assumption); (case ha => walk_at "th")))
local macro_rules | `(tactic| walk_at "no") => `(tactic| first
  | assumption
  | ((refine' Th.none ?ha ?hb); (case hb => assumption); (case ha => walk_at "th")))
local macro_rules | `(tactic| walk_at "in") => `(tactic| first
  | (refine' Or.inl ?ha; (case ha => simp; done))
  | (refine' Or.inr ?ha; (case ha => walk_at "no")))
local macro_rules | `(tactic| walk_at "k") => `(tactic| first
  | assumption
  | exact Kp.refl _
  | ((refine' Kp.step0 ?ha ?hb); (case hb => assumption); (case ha => walk_at "k"))
  | ((refine' Kp.step1 ?ha ?hb ?hc); (case hb => assumption); (case ha => walk_at "k"); (case hc => walk_at "in"))
  | ((refine' Kp.step2 ?ha ?hb ?hc ?hd); (case hb => assumption); (case ha => walk_at "k"); (case hc => walk_at "in"); (case hd => walk_at "in")))
local macro_rules | `(tactic| walk_at "ne") => `(tactic| first
  | assumption
  | ((refine' Ne.symm ?ha); (case ha => assumption))
  | ((refine' Src.ne ?ha ?hb); (case hb => assumption); (case ha => walk_at "h"))
  | ((refine' Scr.ne ?ha ?hb); (case hb => assumption); (case ha => walk_at "h"))
  | ((refine' Ne.symm (Scr.ne ?ha ?hb)); (case hb => assumption); (case ha => walk_at "h"))
  | ((refine' Src.ne2 ?ha ?hb); (case hb => assumption); (case ha => walk_at "h"))
  | ((refine' Ne.symm (Src.ne ?ha ?hb)); (case hb => assumption); (case ha => walk_at "h"))
  | ((refine' Ne.symm (Src.ne2 ?ha ?hb)); (case hb => assumption); (case ha => walk_at "h"))
  | ((refine' ne_of_none ?ha ?hb); (case hb => assumption); (case ha => walk_at "h"))
  | ((refine' Ne.symm (ne_of_none ?ha ?hb)); (case hb => assumption); (case ha => walk_at "h")))
local macro_rules | `(tactic| walk_at "n") => `(tactic| first
  | exact List.not_mem_nil
  | (refine' notin1 ?ha; (case ha => walk_at "ne"))
  | (refine' notin2 ?ha ?hb; (case ha => walk_at "ne"); (case hb => walk_at "ne"))
  | (refine' notin3 ?ha ?hb ?hc; (case ha => walk_at "ne"); (case hb => walk_at "ne"); (case hc => walk_at "ne")))
local macro_rules | `(tactic| walk_at "h") => `(tactic| first
  | assumption
  | ((with_reducible refine' SqT.of ?ha); (case ha => assumption))
  | ((with_reducible refine' SqL.of ?ha); (case ha => assumption))
  | ((with_reducible refine' KT.sq ?ha); (case ha => assumption))
  | ((with_reducible refine' Or.inl ?ha); (case ha => walk_at "h"))
  | ((with_reducible refine' Or.inr ?ha); (case ha => walk_at "h"))
  | ((with_reducible refine' Kp.sqT ?ha ?hb); (case ha => assumption); (case hb => walk_at "h"))
  | ((with_reducible refine' Kp.tp ?ha ?hb); (case ha => assumption); (case hb => walk_at "h"))
  | ((with_reducible refine' Kp.src ?ha ?hb ?hc ?hd); (case ha => assumption); (case hb => walk_at "h"); (case hc => walk_at "n"); (case hd => walk_at "n"))
  | ((with_reducible refine' Kp.scr ?ha ?hb ?hc); (case ha => assumption); (case hb => walk_at "h"); (case hc => walk_at "n"))
  | ((with_reducible refine' Kp.td ?ha ?hb); (case ha => assumption); (case hb => walk_at "h"))
  | exact Dp.int _
  | exact Dp.str _
  | ((with_reducible refine' Td.dp ?ha); (case ha => walk_at "h"))
  | ((with_reducible refine' Kp.dp ?ha ?hb); (case hb => assumption); (case ha => walk_at "k"))
  | ((with_reducible refine' Kp.dpA ?ha ?hb); (case hb => assumption); (case ha => walk_at "k"))
  | ((with_reducible refine' Kp.tdA ?ha ?hb); (case ha => assumption); (case hb => walk_at "h"))
  | ((with_reducible refine' Kp.at_ ?ha ?hb ?hc); (case ha => assumption); (case hb => walk_at "h"); (case hc => walk_at "n"))
  | ((with_reducible refine' Kp.sqL ?ha ?hb ?hc); (case ha => assumption); (case hb => walk_at "h"); (case hc => walk_at "n"))
  | ((with_reducible refine' SqL.of ?ha); (case ha => walk_at "h")))
local macro_rules | `(tactic| walk_at "g") => `(tactic| first
  | ((with_reducible refine' g_var ?ha ?_); (case ha => rfl))
  | with_reducible refine' g_seq ?_
  | with_reducible refine' g_asg ?_
  | with_reducible refine' g_ret ?_
  | with_reducible refine' g_retN ?_
  | with_reducible refine' g_ifS ?_
  | with_reducible refine' g_drop ?_
  | with_reducible refine' g_next ?_
  | with_reducible refine' g_c ?_
  | with_reducible refine' g_op ?_
  | with_reducible refine' g_un ?_
  | with_reducible refine' g_rI0 ?_
  | with_reducible refine' g_rU ?_
  | with_reducible refine' g_rEqI ?_
  | with_reducible refine' g_rNeI ?_
  | with_reducible refine' g_rEqS ?_
  | with_reducible refine' g_rNeS ?_
  | with_reducible refine' g_nil ?_
  | with_reducible refine' g_cons ?_
  | with_reducible refine' g_tTest ?_
  | with_reducible refine' g_tB ?_
  | with_reducible refine' g_xBl ?_
  | with_reducible refine' g_xInt ?_
  | with_reducible refine' g_and ?_
  | with_reducible refine' g_or ?_
  | with_reducible refine' g_not ?_
  | with_reducible refine' g_cNot ?_
  | with_reducible refine' g_andV ?_
  | with_reducible refine' g_orV ?_
  | with_reducible refine' g_notV ?_
  | with_reducible refine' g_xNot ?_
  | with_reducible refine' g_xIf ?_
  | with_reducible refine' g_tIf ?_
  | with_reducible refine' g_call ?_
  | with_reducible refine' g_cb ?_
  | with_reducible refine' g_tup ?_
  | with_reducible refine' g_lst ?_
  | with_reducible refine' g_sl ?_
  | with_reducible refine' g_noPart ?_
  | with_reducible refine' g_part ?_
  | with_reducible refine' g_fld ?_
  | with_reducible refine' g_par ?_
  | with_reducible refine' g_xPar ?_
  | with_reducible refine' g_par3 ?_
  | with_reducible refine' g_xPar3 ?_
  | with_reducible refine' g_star ?_
  | with_reducible refine' g_bm ?_
  | with_reducible refine' g_bm0 ?_
  | with_reducible refine' g_asgG ?_
  | with_reducible refine' g_gSub ?_
  | with_reducible refine' g_int1 ?_
  | with_reducible refine' g_max2 ?_
  | with_reducible refine' g_min2 ?_
  | with_reducible refine' g_abs ?_
  | with_reducible refine' g_for ?_
  | with_reducible refine' g_rIsN ?_
  | with_reducible refine' g_rNotN ?_
  | with_reducible refine' g_setF ?_
  | with_reducible refine' g_make ?_
  | with_reducible refine' g_iEnumT ?_
  | with_reducible refine' g_dnotin ?_
  | with_reducible refine' g_xDNI ?_
  | with_reducible refine' g_dput ?_
  | with_reducible refine' g_xDP ?_
  | with_reducible refine' g_xDP2 ?_
  | with_reducible refine' g_dget2 ?_
  | with_reducible refine' g_xDG2 ?_
  | with_reducible refine' g_dnewT ?_
  | with_reducible refine' g_iZipA ?_
  | ((with_reducible refine' g_xDNI2 ?ha ?hb ?_); (case ha => walk_at "h"); (case hb => walk_at "h"))
  | ((with_reducible refine' g_xDP3 ?ha ?hb ?hc ?_); (case ha => walk_at "h"); (case hb => walk_at "h"); (case hc => omega))
  | ((with_reducible refine' g_xDG ?ha ?_); (case ha => walk_at "h"))
  | ((with_reducible refine' g_xDG3 ?ha ?hb ?_); (case ha => walk_at "h"); (case hb => walk_at "h"))
  | with_reducible refine' g_me ?_
  | with_reducible refine' g_pr ?_
  | with_reducible refine' g_callS ?_
  | with_reducible refine' g_dropN ?_
  | with_reducible refine' g_meS ?_
  | with_reducible refine' g_makeS ?_
  | with_reducible refine' g_addS ?_
  | with_reducible refine' g_xf ?_
  | with_reducible refine' g_chain ?_
  | with_reducible refine' g_iList ?_
  | with_reducible refine' g_iTup ?_
  | with_reducible refine' g_iRng1 ?_
  | with_reducible refine' g_iRng2 ?_
  | with_reducible refine' g_gName ?_
  | with_reducible refine' g_gCons ?_
  | with_reducible refine' g_gNil ?_
  | with_reducible refine' g_lc ?_
  | with_reducible refine' g_yes ?_
  | with_reducible refine' g_whT ?_
  | with_reducible refine' g_whF ?_
  | ((with_reducible refine' g_xItl ?ha ?_); (case ha => walk_at "h"))
  | ((with_reducible refine' g_xItt ?ha ?_); (case ha => walk_at "h"))
  | ((with_reducible refine' g_listL ?ha ?_); (case ha => walk_at "h"))
  | ((with_reducible refine' g_listT ?ha ?_); (case ha => walk_at "h"))
  | ((with_reducible refine' g_tupL ?ha ?_); (case ha => walk_at "h"))
  | ((with_reducible refine' g_inT ?ha ?hb ?hc ?_); (case ha => walk_at "h"); (case hb => rfl); (case hc => rfl))
  | ((with_reducible refine' g_ninT ?ha ?hb ?hc ?_); (case ha => walk_at "h"); (case hb => rfl); (case hc => rfl))
  | ((with_reducible refine' g_slA ?ha ?_); (case ha => walk_at "h"))
  | ((with_reducible refine' g_slL ?ha ?_); (case ha => walk_at "h"))
  | ((with_reducible refine' g_mkT ?ha ?_); (case ha => exact lenOk rfl))
  | ((with_reducible refine' g_mkL ?ha ?_); (case ha => exact lenOk rfl))
  | ((with_reducible refine' ap_next ?ha ?hb ?hc ?_); (case ha => walk_at "h"); (case hb => omega); (case hc => omega))
  | ((with_reducible refine' ap_pick ?ha ?hb ?hc ?hd ?he ?hf ?_); (case ha => walk_at "h"); (case hb => walk_at "h"); (case hc => walk_at "ne"); (case hd => walk_at "ne"); (case he => exact Nat.lt_of_sub_eq_succ rfl); (case hf => exact Nat.le_of_ble_eq_true rfl))
  | ((with_reducible refine' ap_plain ?ha ?hb ?hc ?_); (case ha => walk_at "h"); (case hb => omega); (case hc => omega))
  | ((with_reducible refine' ap_step ?ha ?hb ?hc ?_); (case ha => walk_at "h"); (case hb => omega); (case hc => omega))
  | ((with_reducible refine' ap_steps ?ha ?hb ?hc ?hd ?_); (case ha => walk_at "h"); (case hb => omega); (case hc => omega); (case hd => omega))
  | ((with_reducible refine' ap_isInt ?ha ?_); (case ha => walk_at "h"))
  | ((with_reducible refine' ap_isPlain ?ha ?hb ?_); (case ha => walk_at "h"); (case hb => walk_at "h"))
  | ((with_reducible refine' ap_arePlain ?ha ?hb ?hc ?_); (case ha => walk_at "h"); (case hb => assumption); (case hc => assumption))
  | ((with_reducible refine' ap_isStep ?ha ?hb ?hc ?_); (case ha => walk_at "h"); (case hb => assumption); (case hc => assumption))
  | ((with_reducible refine' g_xEnumT ?ha ?_); (case ha => walk_at "h"))
  | ((with_reducible refine' g_many ?ha ?hb ?_); (case ha => assumption); (case hb => walk_at "h"))
  | ((with_reducible refine' g_rows ?ha ?hb ?_); (case ha => assumption); (case hb => walk_at "h"))
  | ((with_reducible refine' ap_wheels ?ha ?_); (case ha => walk_at "h"))
  | ((with_reducible refine' g_xTurn ?ha ?_); (case ha => rfl))
  | ((with_reducible refine' g_gTup ?ha ?hb ?_); (case ha => walk_at "h"); (case hb => rfl))
  | ((with_reducible refine' g_rEq ?ha ?_); (case ha => rfl))
  | ((with_reducible refine' g_rNe ?ha ?_); (case ha => rfl))
  | ((with_reducible refine' g_ixT ?ha ?hb ?_); (case ha => walk_at "h"); (case hb => first | rfl | exact atI_at (j := 0) (by decide) rfl | exact atI_at (j := 1) (by decide) rfl | exact atI_at (j := 2) (by decide) rfl | exact atI_at (j := 3) (by decide) rfl))
  | ((with_reducible refine' g_ixL ?ha ?hb ?_); (case ha => walk_at "h"); (case hb => first | rfl | exact atI_at (j := 0) (by decide) rfl | exact atI_at (j := 1) (by decide) rfl | exact atI_at (j := 2) (by decide) rfl | exact atI_at (j := 3) (by decide) rfl))
  | ((with_reducible refine' g_lenL ?ha ?_); (case ha => walk_at "h"))
  | ((with_reducible refine' g_lenT ?ha ?_); (case ha => walk_at "h"))
  | ((with_reducible refine' g_xStarT ?ha ?_); (case ha => walk_at "h"))
  | ((with_reducible refine' g_xStarL ?ha ?_); (case ha => walk_at "h"))
  | ((with_reducible refine' g_xBML ?ha ?_); (case ha => walk_at "h"))
  | ((with_reducible refine' g_xBM0L ?ha ?_); (case ha => walk_at "h"))
  | ((with_reducible refine' g_setL ?ha ?hb ?_); (case ha => walk_at "h"); (case hb => rfl))
  | ((with_reducible refine' g_rI ?ha ?_); (case ha => first | exact Or.inr ⟨by decide, by decide⟩ | exact Or.inl ⟨by decide, by decide⟩ | (show (0 : Int) < _; first | decide | omega) | exact ⟨by decide, by decide +kernel⟩ | exact ⟨by decide, by decide, by decide⟩))
  | ((with_reducible refine' g_then ?ha ?_); (case ha => first | decide +kernel | rfl))
  | ((with_reducible refine' g_else ?ha ?_); (case ha => first | decide +kernel | rfl))
  | dsimp only)
local macro_rules | `(tactic| walk_at "gs") => `(tactic| repeat (walk_at "g"))
theorem next_at (ns : List Int) (ix : Int) : ∃ (c : Int), atI (vI ns ++ [V.int 0]) (ix % (if (((vI ns).length : Nat) : Int) > 1 then (((vI ns).length : Nat) : Int) else 1)) = some (.int c) ∧ (c = 0 ∨ 0 < ns.length) := by
  rw [vI_length]
  cases ns with
  | nil =>
    refine ⟨0, ?_, .inl rfl⟩
    rw [if_neg (by simp), Int.emod_one]
    rfl
  | cons a r =>
    have hp : (0 : Int) < (((a :: r).length : Nat) : Int) := by
      rw [List.length_cons]
      omega
    have e : (if (((a :: r).length : Nat) : Int) > 1 then (((a :: r).length : Nat) : Int) else 1) = (((a :: r).length : Nat) : Int) := by
      split <;> omega
    rw [e]
    have h1 := Int.emod_nonneg ix (Int.ne_of_gt hp)
    have h2 := Int.emod_lt_of_pos ix hp
    obtain ⟨j, hj⟩ : ∃ j : Nat, ix % (((a :: r).length : Nat) : Int) = (j : Int) := ⟨_, (Int.toNat_of_nonneg h1).symm⟩
    rw [hj] at h2 ⊢
    have hl : j < (a :: r).length := by omega
    refine ⟨(a :: r)[j], atI_nat ?_, .inr (by rw [List.length_cons]; omega)⟩
    rw [List.getElem?_append_left (by rw [vI_length]; exact hl)]
    exact vI_get (List.getElem?_eq_getElem hl)
theorem vI_int {ns : List Int} {i : Nat} {x : V} (h : (vI ns)[i]? = some x) : ∃ z, x = .int z := by
  unfold vI at h
  rw [List.getElem?_map] at h
  cases e : ns[i]? with
  | none =>
    rw [e] at h
    cases h
  | some z =>
    rw [e] at h
    exact ⟨z, (Option.some.inj h).symm⟩
abbrev s_law_next : Stmt := topS 34
abbrev n_law_next : List Str := ["_law_h", "_law_cap", "_law_cell"]
theorem sc_law_next : FnScope n_law_next ["_law_h", "_law_cap"] (defScope s_law_next) := ⟨rfl, rfl, rfl, by decide +kernel, rfl, by decide +kernel, by decide +kernel⟩
abbrev s_law_mix : Stmt := topS 33
abbrev n_law_mix : List Str := ["_law_script_here", "_law_seed", "_law_state", "_law_cell"]
theorem sc_law_mix : FnScope n_law_mix ["_law_script_here", "_law_seed"] (defScope s_law_mix) := ⟨rfl, rfl, rfl, by decide +kernel, rfl, by decide +kernel, by decide +kernel⟩
abbrev s_law_pick : Stmt := topS 36
abbrev n_law_pick : List Str := ["_law_h", "_law_things"]
theorem sc_law_pick : FnScope n_law_pick ["_law_h", "_law_things"] (defScope s_law_pick) := ⟨rfl, rfl, rfl, by decide +kernel, rfl, by decide +kernel, by decide +kernel⟩
abbrev s_law_plain : Stmt := topS 37
abbrev n_law_plain : List Str := ["_law_h", "_law_wheels", "_law_wheel", "_law_by"]
theorem sc_law_plain : FnScope n_law_plain ["_law_h", "_law_wheels"] (defScope s_law_plain) := ⟨rfl, rfl, rfl, by decide +kernel, rfl, by decide +kernel, by decide +kernel⟩
abbrev s_law_step : Stmt := topS 38
abbrev n_law_step : List Str := ["_law_h", "_law_wheels", "_law_one", "_law_other", "_law_first", "_law_k"]
theorem sc_law_step : FnScope n_law_step ["_law_h", "_law_wheels"] (defScope s_law_step) := ⟨rfl, rfl, rfl, by decide +kernel, rfl, by decide +kernel, by decide +kernel⟩
abbrev s_law_many : Stmt := topS 39
abbrev n_law_many : List Str := ["_law_steps", "_law_step_here"]
theorem sc_law_many : FnScope n_law_many ["_law_steps"] (defScope s_law_many) := ⟨rfl, rfl, rfl, by decide +kernel, rfl, by decide +kernel, by decide +kernel⟩
theorem pick_word {v : V} (h : v ∈ [V.str "on", V.str "on", V.str "back", V.str "none"]) : ∃ k : Wd, v = .str k.s := by
  simp only [List.mem_cons, List.not_mem_nil, or_false] at h
  rcases h with rfl | rfl | rfl | rfl
  · exact ⟨.on, rfl⟩
  · exact ⟨.on, rfl⟩
  · exact ⟨.back, rfl⟩
  · exact ⟨.no, rfl⟩
theorem pick_by {v : V} (h : v ∈ [V.int 1, V.int 1, V.int (-1), V.int (-1), V.int 2, V.int (-2)]) : ∃ b : Int, (b = -2 ∨ b = -1 ∨ b = 1 ∨ b = 2) ∧ v = .int b := by
  simp only [List.mem_cons, List.not_mem_nil, or_false] at h
  rcases h with rfl | rfl | rfl | rfl | rfl | rfl
  all_goals exact ⟨_, by decide, rfl⟩
theorem pick_by2 {v : V} (h : v ∈ [V.int 1, V.int (-1)]) : v ∈ [V.int 1, V.int 1, V.int (-1), V.int (-1), V.int 2, V.int (-2)] := by
  simp only [List.mem_cons, List.not_mem_nil, or_false] at h ⊢
  rcases h with rfl | rfl <;> simp
section
variable {P : Program} {w : World} {K : PySem.W.Frag} {mg : Str → Option Value} {base : Heap} {f : Addr} {fd : FuncData}
theorem ok_next (F : Fun K "_law_next" "_law_next" s_law_next f fd) (N : Nm mg) : FnOk P w K mg base CX0 1 f fd ["_law_h", "_law_cap"] spNext := by
  have m_len := N.len
  have m_max := N.max
  have m_int := N.int
  refine F.ok sc_law_next (fun vs H Q E h => ?_) (fun cdv A outer s H vs Q E hr h => ?_)
  · obtain ⟨h, q, cap, rfl, _⟩ := h
    rfl
  obtain ⟨h, q, cap, rfl, ⟨st, ns, ix, e1, e2, hl, h0⟩, c0, c1, k⟩ := h
  have hq : q ≠ h := ne_of e2 e1 fun z => by
    cases ns with
    | nil => cases z
    | cons a r => cases r with
      | nil => cases z
      | cons b r => cases z
  refine ⟨_, (pss_cons (ps_set (i := 2) sc_law_next.nd rfl (by first | exact Or.inl rfl | exact Or.inr rfl) (pe_ix (ix_listK (K := K)) (pe_op op_cat (pe_ix (ix_listK (K := K)) (pv 0) pe_int (fun _ _ => rfl)) (pe_lst (pa_cons pe_int pa_nil))) (pe_op op_mod (pe_callTy w_int (by rfl) m_int (by decide +kernel) (pa_cons (pe_ix (ix_listK (K := K)) (pv 0) pe_int (fun _ _ => rfl)) pa_nil)) (pe_callB (w_max2 (by rfl)) (by rfl) m_max (by decide +kernel) (pa_cons pe_int (pa_cons (pe_callB (w_lenK (K := K)) (by rfl) m_len (by decide +kernel) (pa_cons (pe_ix (ix_listK (K := K)) (pv 0) pe_int (fun _ _ => rfl)) pa_nil)) pa_nil)))) (fun _ _ => rfl)))
      (pss_cons (ps_if (pt_cmpR op_ge (pv 2) (pe_op op_pow pe_int pe_int) (nomark _)) (pss_cons (ps_asg (pe_op op_fdivW (pv 2) (pv 1)) (pg_sub (pe_ix (ix_listK (K := K)) (pv 0) pe_int (fun _ _ => rfl)) (pe_op op_mod (pe_callTy w_int (by rfl) m_int (by decide +kernel) (pa_cons (pe_ix (ix_listK (K := K)) (pv 0) pe_int (fun _ _ => rfl)) pa_nil)) (pe_callB (w_lenK (K := K)) (by rfl) m_len (by decide +kernel) (pa_cons (pe_ix (ix_listK (K := K)) (pv 0) pe_int (fun _ _ => rfl)) pa_nil))) set_list))
      (pss_one (ps_ret (pe_op op_mod (pe_callTy w_int (by rfl) m_int (by decide +kernel) (pa_cons (pv 2) pa_nil)) (pv 1))))) pss_nil)
      (pss_cons (ps_asg (pe_op op_mod (pe_callTy w_int (by rfl) m_int (by decide +kernel) (pa_cons (pe_op op_add (pe_op op_add (pe_op op_mul (pe_ix (ix_listK (K := K)) (pv 0) pe_int (fun _ _ => rfl)) pe_int) (pe_op op_mul (pv 2) pe_int)) pe_int) pa_nil)) pe_int) (pg_sub (pv 0) pe_int set_list))
      (pss_cons (ps_asg (pe_op op_add (pe_ix (ix_listK (K := K)) (pv 0) pe_int (fun _ _ => rfl)) pe_int) (pg_sub (pv 0) pe_int set_list))
      (pss_one (ps_ret (pe_op op_mod (pe_callTy w_int (by rfl) m_int (by decide +kernel) (pa_cons (pe_op op_fdivW (pe_ix (ix_listK (K := K)) (pv 0) pe_int (fun _ _ => rfl)) pe_int) pa_nil)) (pv 1)))))))), ?_⟩
  try dsimp only [nox_K]
  walk_at "gs"
  intro z1 H1 n1 k1 x1
  walk_at "gs"
  refine g_cat (xs := vI ns) (ys := [V.int 0]) (by walk_at "h") (by walk_at "h") (by simp [vI]; omega) fun z2 H2 n2 k2 x2 => ?_
  walk_at "gs"
  obtain ⟨c, hc, hz⟩ := next_at ns ix
  refine g_ixL (by walk_at "h") hc ?_
  walk_at "gs"
  refine g_both (fun c2 => ?_) (fun c2 => ?_)
  · have c3 : (10 : Int) ^ (Int.toNat 18) = 1000000000000000000 := by decide
    rw [c3] at c2
    have hn : 0 < ns.length := by omega
    walk_at "gs"
    refine g_rI (wide_div (b := 60) c0 (by omega) (by decide) (by decide)) ?_
    walk_at "gs"
    have hp : (0 : Int) < (((vI ns).length : Nat) : Int) := by
      rw [vI_length]
      omega
    refine g_rI hp ?_
    have h1 := Int.emod_nonneg ix (Int.ne_of_gt hp)
    have h2 := Int.emod_lt_of_pos ix hp
    obtain ⟨j, hj⟩ : ∃ j : Nat, ix % (((vI ns).length : Nat) : Int) = (j : Int) := ⟨_, (Int.toNat_of_nonneg h1).symm⟩
    rw [hj] at h2
    refine g_setL (j := j) (by walk_at "h") (ixN_at hj (by omega)) fun H3 k3 x3 => ?_
    walk_at "gs"
    refine k _ H3 (Int.emod_nonneg _ (by omega)) (Int.emod_lt_of_pos _ c0) (by walk_at "k") ⟨st, ns.set j (c / cap), ix, by walk_at "h", ?_, by simpa using hl, h0⟩
    rw [x3]
    unfold vI
    rw [List.map_set]
  · walk_at "gs"
    intro H3 k3 x3
    walk_at "gs"
    intro H4 k4 x4
    walk_at "gs"
    refine k _ H4 (Int.emod_nonneg _ (by omega)) (Int.emod_lt_of_pos _ c0) (by walk_at "k") ⟨_, ns, ix + 1, x4, by walk_at "h", hl, by omega⟩

theorem ok_mix (F : Fun K "_law_mix" "_law_mix" s_law_mix f fd) (N : Nm mg) : FnOk P w K mg base CX0 1 f fd ["_law_script_here", "_law_seed"] (spMix K) := by
  have m_int := N.int
  have m_list := N.list
  refine F.ok sc_law_mix (fun vs H Q E h => ?_) (fun cdv A outer s H vs Q E hr h => ?_)
  · obtain ⟨_, _, _, rfl, _⟩ := h
    rfl
  obtain ⟨a, ns, sd, rfl, hS, hl, k⟩ := h
  refine ⟨_, (pss_cons (ps_set (i := 2) sc_law_mix.nd rfl (by first | exact Or.inl rfl | exact Or.inr rfl) (pv 1))
      (pss_cons (ps_for PassesOwn.never rfl (pi_listK (K := K) (pv 0)) (pg_name (i := 3) sc_law_mix.nd rfl (by first | exact Or.inl rfl | exact Or.inr rfl)) (pss_one (ps_set (i := 2) sc_law_mix.nd rfl (by first | exact Or.inl rfl | exact Or.inr rfl) (pe_op op_mod (pe_callTy w_int (by rfl) m_int (by decide +kernel) (pa_cons (pe_op op_add (pe_op op_add (pe_op op_mul (pv 2) pe_int) (pe_op op_mod (pe_callTy w_int (by rfl) m_int (by decide +kernel) (pa_cons (pv 3) pa_nil)) pe_int)) pe_int) pa_nil)) pe_int))))
      (pss_one (ps_ret (pe_lst (pa_cons (pv 2) (pa_cons (pe_callTy (w_listK (K := K)) (by rfl) m_list (by decide +kernel) (pa_cons (pv 0) pa_nil)) (pa_cons pe_int pa_nil)))))))), ?_⟩
  try dsimp only [nox_K]
  walk_at "gs"
  refine g_loopL (xs := vI ns) (fun i σ' H' => H' = H ∧ ∃ st y, σ' = [some (.ref a), some (.int sd), some (.int st), y]) ⟨rfl, _, _, rfl⟩ (fun i σ' H' _ ⟨e, _⟩ => e ▸ hS) ?_ ?_
  · rintro i x σ' H' hx ⟨rfl, st, y, rfl⟩
    obtain ⟨z, rfl⟩ := vI_int hx
    walk_at "gs"
    exact ⟨rfl, _, _, rfl⟩
  · rintro σ' H' ⟨rfl, st, y, rfl⟩
    walk_at "gs"
    intro q H1 nq k1 e1
    walk_at "gs"
    intro h H2 nh k2 e2
    exact k h q H2 (by walk_at "no") nq (by walk_at "k") ⟨st, ns, 0, e2, by walk_at "h", hl, Int.le_refl 0⟩
theorem ok_pick (F : Fun K "_law_pick" "_law_pick" s_law_pick f fd) (N : Nm mg) (c_law_next : Cal CX0 P w K mg base 1 "_law_next" spNext) : FnOk P w K mg base CX0 2 f fd ["_law_h", "_law_things"] spPick := by
  have m_len := N.len
  refine F.ok sc_law_pick (fun vs H Q E h => ?_) (fun cdv A outer s H vs Q E hr h => ?_)
  · obtain ⟨_, _, _, _, rfl, _⟩ := h
    rfl
  obtain ⟨h, q, l, xs, rfl, hS, hL, n1, n2, h0, h1, k⟩ := h
  refine ⟨_, (pss_one (ps_ret (pe_ix (ix_listK (K := K)) (pv 1) (pe_c c_law_next hr (by first | decide | omega) (by rfl) (pa_cons (pv 0) (pa_cons (pe_callB (w_lenK (K := K)) (by rfl) m_len (by decide +kernel) (pa_cons (pv 1) pa_nil)) pa_nil))) (fun _ _ => rfl)))), ?_⟩
  try dsimp only [nox_K]
  walk_at "gs"
  intro r H1 r0 r1 k1 s1
  obtain ⟨j, rfl⟩ : ∃ j : Nat, r = (j : Int) := ⟨_, (Int.toNat_of_nonneg r0).symm⟩
  have hj : j < xs.length := by omega
  refine g_ixL (by walk_at "h") (atI_nat (List.getElem?_eq_getElem hj)) ?_
  walk_at "gs"
  exact k _ _ (List.getElem_mem hj) k1 s1
theorem ok_plain (F : Fun K "_law_plain" "_law_plain" s_law_plain f fd) (N : Nm mg) (c_law_next : Cal CX0 P w K mg base 1 "_law_next" spNext) (c_law_pick : Cal CX0 P w K mg base 2 "_law_pick" spPick) : FnOk P w K mg base CX0 3 f fd ["_law_h", "_law_wheels"] (spPlain K) := by
  refine F.ok sc_law_plain (fun vs H Q E h => ?_) (fun cdv A outer s H vs Q E hr h => ?_)
  · obtain ⟨_, _, _, rfl, _⟩ := h
    rfl
  obtain ⟨h, q, n, rfl, hS, h1, h3, k⟩ := h
  refine ⟨_, (pss_cons (ps_set (i := 2) sc_law_plain.nd rfl (by first | exact Or.inl rfl | exact Or.inr rfl) (pe_c c_law_next hr (by first | decide | omega) (by rfl) (pa_cons (pv 0) (pa_cons (pv 1) pa_nil))))
      (pss_cons (ps_if (pt_cmpR op_eq (pe_c c_law_next hr (by first | decide | omega) (by rfl) (pa_cons (pv 0) (pa_cons pe_int pa_nil))) pe_int (nomark _)) (pss_one (ps_ret (pe_tup (pa_cons pe_str (pa_cons (pv 2) (pa_cons (pe_op op_sub (pe_c c_law_next hr (by first | decide | omega) (by rfl) (pa_cons (pv 0) (pa_cons pe_int pa_nil))) pe_int) pa_nil)))))) pss_nil)
      (pss_cons (ps_set (i := 3) sc_law_plain.nd rfl (by first | exact Or.inl rfl | exact Or.inr rfl) (pe_c c_law_pick hr (by first | decide | omega) (by rfl) (pa_cons (pv 0) (pa_cons (pe_ifExp (pt_cmpR op_eq (pv 1) pe_int (nomark _)) (pe_lst (pa_cons pe_int (pa_cons (pe_un un_neg pe_int) pa_nil))) (pe_lst (pa_cons pe_int (pa_cons pe_int (pa_cons (pe_un un_neg pe_int) (pa_cons (pe_un un_neg pe_int) (pa_cons pe_int (pa_cons (pe_un un_neg pe_int) pa_nil)))))))) pa_nil))))
      (pss_one (ps_ret (pe_tup (pa_cons pe_str (pa_cons (pv 2) (pa_cons (pv 3) (pa_cons (pe_c c_law_pick hr (by first | decide | omega) (by rfl) (pa_cons (pv 0) (pa_cons (pe_lst (pa_cons pe_str (pa_cons pe_str (pa_cons pe_str (pa_cons pe_str pa_nil))))) pa_nil))) pa_nil)))))))))), ?_⟩
  try dsimp only [nox_K]
  walk_at "gs"
  intro r H1 r0 r1 k1 s1
  obtain ⟨w, rfl⟩ : ∃ j : Nat, r = (j : Int) := ⟨_, (Int.toNat_of_nonneg r0).symm⟩
  have hw : w < n := by omega
  walk_at "gs"
  intro r2 H2 r20 r21 k2 s2
  walk_at "gs"
  refine g_both (fun c => ?_) (fun c => ?_)
  · walk_at "gs"
    intro r3 H3 r30 r31 k3 s3
    walk_at "gs"
    intro p H4 np k4 e4
    walk_at "gs"
    exact k (.set w (r3 - 2)) _ _ ⟨hw, by omega, by omega⟩ (td_mk_set (SqT.of e4)) (by walk_at "k") (by walk_at "h")
  · walk_at "gs"
    refine g_both (fun c => ?_) (fun c => ?_)
    all_goals
      walk_at "gs"
      intro l1 H3 nl1 k3 e3
      walk_at "gs"
      intro by_ H4 hb k4 s4
      walk_at "gs"
      intro l2 H5 nl2 k5 e5
      walk_at "gs"
      intro wd H6 hwd k6 s6
      walk_at "gs"
      intro p H7 np k7 e7
      obtain ⟨kd, rfl⟩ := pick_word hwd
      obtain ⟨b, hb', rfl⟩ := pick_by (by first | exact hb | exact pick_by2 hb)
      exact k (.turn w b kd) _ _ ⟨hw, hb'⟩ (td_mk_turn (SqT.of e7)) (by walk_at "k") (by walk_at "h")
theorem ok_step (F : Fun K "_law_step" "_law_step" s_law_step f fd) (N : Nm mg) (c_law_next : Cal CX0 P w K mg base 1 "_law_next" spNext) (c_law_plain : Cal CX0 P w K mg base 3 "_law_plain" (spPlain K)) : FnOk P w K mg base CX0 4 f fd ["_law_h", "_law_wheels"] (spStep K) := by
  have m_range := N.range
  have m_tuple := N.tuple
  refine F.ok sc_law_step (fun vs H Q E h => ?_) (fun cdv A outer s H vs Q E hr h => ?_)
  · obtain ⟨_, _, _, rfl, _⟩ := h
    rfl
  obtain ⟨h, q, n, rfl, hS, h1, h3, k⟩ := h
  refine ⟨_, (pss_cons (ps_if (PW.pt (pw_or (pt_cmpR op_eq (pv 1) pe_int (nomark _)) (pw_or1 (pt_cmpR op_gt (pe_c c_law_next hr (by first | decide | omega) (by rfl) (pa_cons (pv 0) (pa_cons pe_int pa_nil))) pe_int (nomark _))))) (pss_one (ps_ret (pe_c c_law_plain hr (by first | decide | omega) (by rfl) (pa_cons (pv 0) (pa_cons (pv 1) pa_nil))))) pss_nil)
      (pss_cons (ps_set (i := 2) sc_law_step.nd rfl (by first | exact Or.inl rfl | exact Or.inr rfl) (pe_c c_law_next hr (by first | decide | omega) (by rfl) (pa_cons (pv 0) (pa_cons (pe_op op_sub (pv 1) pe_int) pa_nil))))
      (pss_cons (ps_set (i := 3) sc_law_step.nd rfl (by first | exact Or.inl rfl | exact Or.inr rfl) (pe_op op_add (pe_op op_add (pv 2) pe_int) (pe_c c_law_next hr (by first | decide | omega) (by rfl) (pa_cons (pv 0) (pa_cons (pe_op op_sub (pe_op op_sub (pv 1) pe_int) (pv 2)) pa_nil)))))
      (pss_cons (ps_set (i := 4) sc_law_step.nd rfl (by first | exact Or.inl rfl | exact Or.inr rfl) (pe_callTy (w_tupleK (K := K)) (by rfl) m_tuple (by decide +kernel) (pa_cons (pe_lc (own := [("_law_k", 5)]) (tt := tYes) (by rfl) sc_law_step.nd (pi_range1 (by rfl) m_range (pa_cons (pe_c c_law_next hr (by first | decide | omega) (by rfl) (pa_cons (pv 0) (pa_cons pe_int pa_nil))) pa_nil)) (blkOk_by (own := [("_law_k", 5)]) (N := n_law_step) (sc := defScope s_law_step) (by decide +kernel)) (fun _ _ _ _ _ => (pg_name (i := 5) sc_law_step.nd rfl (by first | exact Or.inl rfl | exact Or.inr rfl))) (fun _ _ _ _ _ => pts_nil) (fun _ _ _ _ _ => (pe_c c_law_plain hr (by first | decide | omega) (by rfl) (pa_cons (pv 0) (pa_cons (pv 1) pa_nil))))) pa_nil)))
      (pss_one (ps_ret (pe_tup (pa_cons pe_str (pa_cons (pv 2) (pa_cons (pv 3) (pa_cons (pv 4) (pa_cons (pe_callTy (w_tupleK (K := K)) (by rfl) m_tuple (by decide +kernel) (pa_cons (pe_lc (own := [("_law_k", 5)]) (tt := tYes) (by rfl) sc_law_step.nd (pi_range1 (by rfl) m_range (pa_cons (pe_c c_law_next hr (by first | decide | omega) (by rfl) (pa_cons (pv 0) (pa_cons pe_int pa_nil))) pa_nil)) (blkOk_by (own := [("_law_k", 5)]) (N := n_law_step) (sc := defScope s_law_step) (by decide +kernel)) (fun _ _ _ _ _ => (pg_name (i := 5) sc_law_step.nd rfl (by first | exact Or.inl rfl | exact Or.inr rfl))) (fun _ _ _ _ _ => pts_nil) (fun _ _ _ _ _ => (pe_c c_law_plain hr (by first | decide | omega) (by rfl) (pa_cons (pv 0) (pa_cons (pv 1) pa_nil))))) pa_nil)) pa_nil)))))))))))), ?_⟩
  try dsimp only [nox_K]
  walk_at "gs"
  refine g_both (fun c => ?_) (fun c => ?_)
  · walk_at "gs"
    exact fun p v H' ok t k' s' => k (.pl p) v H' ok (by show 1 ≤ 3; decide) t k' s'
  walk_at "gs"
  intro r H1 r0 r1 k1 s1
  walk_at "gs"
  refine g_both (fun c2 => ?_) (fun c2 => ?_)
  · walk_at "gs"
    exact fun p v H' ok t k' s' => k (.pl p) v H' ok (by show 1 ≤ 3; decide) t (by walk_at "k") s'
  walk_at "gs"
  intro one H2 o0 o1 k2 s2
  walk_at "gs"
  intro d H3 d0 d1 k3 s3
  walk_at "gs"
  intro m H4 m0 m1 k4 s4
  walk_at "gs"
  refine g_xRng1 (by omega) (by omega) ?_
  refine g_compR (fun D i acc H' => ∃ fs : List Pl, TdA K H' acc (fs.map Pl.dat) ∧ (∀ p ∈ fs, p.ok n) ∧ fs.length = i ∧ Kp [h, q] H4 H' ∧ Src H' h q) (fun D H' nD k' => ⟨[], .nil, by simp, rfl, by walk_at "k", by walk_at "h"⟩) ?_ ?_
  · rintro D i acc H' nD hi eD ⟨fs, ta, hok, hl, k', s'⟩
    walk_at "gs"
    intro p v H5 hp tp k5 s5
    refine g_xEl (by walk_at "h") (by have := ta.length; simp at this; omega) fun H6 k6 e6 => ?_
    refine ⟨fs ++ [p], ?_, ?_, by simp [hl], by walk_at "k", by walk_at "h"⟩
    · rw [List.map_append]
      exact TdA.app (by walk_at "h") (.cons (by walk_at "h") .nil)
    · intro p' hp'
      rcases List.mem_append.mp hp' with z | z
      · exact hok p' z
      · rw [List.mem_singleton.mp z]
        exact hp
  rintro D acc H5 nD eD ⟨fs, ta, hok, hl, k5, s5⟩
  walk_at "gs"
  intro pf H6 npf k6 e6
  walk_at "gs"
  intro m' H7 m0' m1' k7 s7
  walk_at "gs"
  refine g_xRng1 (by omega) (by omega) ?_
  refine g_compR (fun D i acc H' => ∃ fs : List Pl, TdA K H' acc (fs.map Pl.dat) ∧ (∀ p ∈ fs, p.ok n) ∧ fs.length = i ∧ Kp [h, q] H7 H' ∧ Src H' h q) (fun D H' nD k' => ⟨[], .nil, by simp, rfl, by walk_at "k", by walk_at "h"⟩) ?_ ?_
  · rintro D i acc H' nD hi eD ⟨fs, ta, hok, hl, k', s'⟩
    walk_at "gs"
    intro p v H5 hp tp k5 s5
    refine g_xEl (by walk_at "h") (by have := ta.length; simp at this; omega) fun H6 k6 e6 => ?_
    refine ⟨fs ++ [p], ?_, ?_, by simp [hl], by walk_at "k", by walk_at "h"⟩
    · rw [List.map_append]
      exact TdA.app (by walk_at "h") (.cons (by walk_at "h") .nil)
    · intro p' hp'
      rcases List.mem_append.mp hp' with z | z
      · exact hok p' z
      · rw [List.mem_singleton.mp z]
        exact hp
  rintro D2 acc2 H8 nD2 eD2 ⟨gs_, ta2, hok2, hl2, k8, s8⟩
  walk_at "gs"
  intro pg H9 npg k9 e9
  walk_at "gs"
  intro p H10 np k10 e10
  walk_at "gs"
  obtain ⟨a, rfl⟩ : ∃ j : Nat, one = (j : Int) := ⟨_, (Int.toNat_of_nonneg o0).symm⟩
  obtain ⟨b, rfl⟩ : ∃ j : Nat, d = (j : Int) := ⟨_, (Int.toNat_of_nonneg d0).symm⟩
  have eb : ((a : Int) + 1 + (b : Int)) = ((a + 1 + b : Nat) : Int) := by omega
  rw [eb] at e10
  refine k (.alike a (a + 1 + b) fs gs_) _ _ ⟨by omega, by omega, hok, hok2⟩ (by show 1 + fs.length + gs_.length ≤ 3; omega) (td_mk_alike (SqT.of e10) (xs := acc) (ys := acc2) (by walk_at "h") (by walk_at "h") (by walk_at "h") (by walk_at "h")) (by walk_at "k") (by walk_at "h")
theorem ok_many (F : Fun K "_law_many" "_law_many" s_law_many f fd) (N : Nm mg) : FnOk P w K mg base CX0 1 f fd ["_law_steps"] (spMany K) := by
  have m_len := N.len
  have m_sum := N.sum
  refine F.ok sc_law_many (fun vs H Q E h => ?_) (fun cdv A outer s H vs Q E hr h => ?_)
  · obtain ⟨_, _, _, rfl, _⟩ := h
    rfl
  obtain ⟨a, xs, l, rfl, hS, hT, hl, k⟩ := h
  refine ⟨_, (pss_one (ps_ret (pe_callB (cr_sumK (K := K) (by rfl)) (by rfl) m_sum (by decide +kernel) (pa_cons (pe_lc (own := [("_law_step_here", 1)]) (tt := tYes) (by rfl) sc_law_many.nd (pi_tupK (K := K) (pv 0)) (blkOk_by (own := [("_law_step_here", 1)]) (N := n_law_many) (sc := defScope s_law_many) (by decide +kernel)) (fun _ _ _ _ _ => (pg_name (i := 1) sc_law_many.nd rfl (by first | exact Or.inl rfl | exact Or.inr rfl))) (fun _ _ _ _ _ => pts_nil) (fun _ _ _ _ _ => (pe_ifExp (pt_cmpR op_eq (pe_ix (ix_tupK (K := K)) (pv 1) pe_int (fun _ _ => rfl)) pe_str (nomark _)) (pe_op op_add (pe_op op_add pe_int (pe_callB (w_lenK (K := K)) (by rfl) m_len (by decide +kernel) (pa_cons (pe_ix (ix_tupK (K := K)) (pv 1) pe_int (fun _ _ => rfl)) pa_nil))) (pe_callB (w_lenK (K := K)) (by rfl) m_len (by decide +kernel) (pa_cons (pe_ix (ix_tupK (K := K)) (pv 1) pe_int (fun _ _ => rfl)) pa_nil))) pe_int))) pa_nil)))), ?_⟩
  try dsimp only [nox_K]
  walk_at "gs"
  refine g_compT (xs := xs) (fun D i acc H' => Kp [] H H' ∧ acc = (l.take i).map fun s => V.int s.cnt) (fun D H1 nD k1 => ⟨k1, rfl⟩) (fun D i acc H' _ ⟨k1, _⟩ => by walk_at "h") ?_ ?_
  · rintro D i x acc H' nD hx eD ⟨k1, rfl⟩
    have hi : i < l.length := by
      have h1 := (List.getElem?_eq_some_iff.mp hx).1
      have h2 := hT.length
      simp at h2
      omega
    obtain ⟨x', hx', tx⟩ := (k1.tdA hT).get (i := i) (d := l[i].dat) (by simp [hi])
    rw [hx] at hx'
    cases hx'
    have et : (l.take (i + 1)).map (fun s => V.int s.cnt) = (l.take i).map (fun s => V.int s.cnt) ++ [V.int l[i].cnt] := by
      rw [List.take_add_one, List.getElem?_eq_getElem hi, List.map_append]
      rfl
    have hz : ((l.take i).map fun s => V.int s.cnt).length ≤ 1000000 := by
      simp
      omega
    cases e : l[i] with
    | pl p =>
      rw [e] at tx et
      cases p with
      | turn w b kd =>
        obtain ⟨p, rfl, hp⟩ := td_turn tx
        walk_at "gs"
        refine g_xEl eD hz fun H5 k5 e5 => ⟨by walk_at "k", ?_⟩
        rw [et]
        rfl
      | set w b =>
        obtain ⟨p, rfl, hp⟩ := td_set tx
        walk_at "gs"
        refine g_xEl eD hz fun H5 k5 e5 => ⟨by walk_at "k", ?_⟩
        rw [et]
        rfl
    | alike a b f g =>
      rw [e] at tx et
      obtain ⟨p, pf, pg, fs, gs_, rfl, hp, hf, tf, hg, tg⟩ := td_alike tx
      walk_at "gs"
      have l1 := tf.length
      have l2 := tg.length
      rw [List.length_map] at l1 l2
      refine g_xEl eD hz fun H5 k5 e5 => ⟨by walk_at "k", ?_⟩
      rw [et, l1, l2]
      simp [Stp.cnt]
  · rintro D acc H' nD eD ⟨k1, rfl⟩
    have ex : l.take xs.length = l := by
      have h2 := hT.length
      rw [List.length_map] at h2
      rw [h2, List.take_length]
    rw [ex] at eD
    walk_at "gs"
    refine g_sum (ns := l.map fun s => (s.cnt : Int)) (SqL.of (by rw [eD, List.map_map]; rfl)) ?_
    have es : (l.map fun s => (s.cnt : Int)).sum = ((cnts l : Nat) : Int) := by
      clear eD ex k hT hl
      induction l with
      | nil => rfl
      | cons s r ih =>
        rw [List.map_cons, List.sum_cons, ih]
        show (s.cnt : Int) + (cnts r : Int) = ((s.cnt + cnts r : Nat) : Int)
        omega
    rw [es]
    exact k H' k1
end
theorem turn_inV (i : Int) : inV (.int i) [.int (-2), .int (-1), .int 1, .int 2] = turnIn (.int i) := by
  have e : ∀ a b : Int, (a == b) = decide (b = a) := fun a b => by
    rw [Bool.beq_eq_decide_eq]
    exact decide_eq_decide.mpr ⟨Eq.symm, Eq.symm⟩
  simp only [inV, eqV, turnIn, List.any_cons, List.any_nil, Bool.or_false, e, Bool.or_assoc]
theorem word_inV (z : Str) : inV (.str z) [.str "on", .str "back", .str "none"] = wordIn (.str z) := by
  have e : ∀ a b : Str, (a == b) = decide (b = a) := fun a b => by
    rw [Bool.beq_eq_decide_eq]
    exact decide_eq_decide.mpr ⟨Eq.symm, Eq.symm⟩
  simp only [inV, eqV, wordIn, List.any_cons, List.any_nil, Bool.or_false, e, Bool.or_assoc]
abbrev s_is_integer : Stmt := topS 15
abbrev n_is_integer : List Str := ["thing", "low", "high"]
theorem sc_is_integer : FnScope n_is_integer ["thing", "low", "high"] (defScope s_is_integer) := ⟨rfl, rfl, rfl, by decide +kernel, rfl, by decide +kernel, by decide +kernel⟩
abbrev s_is_plain : Stmt := topS 16
abbrev n_is_plain : List Str := ["thing", "wheels"]
theorem sc_is_plain : FnScope n_is_plain ["thing", "wheels"] (defScope s_is_plain) := ⟨rfl, rfl, rfl, by decide +kernel, rfl, by decide +kernel, by decide +kernel⟩
abbrev s_are_plain : Stmt := topS 17
abbrev n_are_plain : List Str := ["thing", "wheels", "step"]
theorem sc_are_plain : FnScope n_are_plain ["thing", "wheels"] (defScope s_are_plain) := ⟨rfl, rfl, rfl, by decide +kernel, rfl, by decide +kernel, by decide +kernel⟩
abbrev s_is_step : Stmt := topS 18
abbrev n_is_step : List Str := ["thing", "wheels", "wheel"]
theorem sc_is_step : FnScope n_is_step ["thing", "wheels"] (defScope s_is_step) := ⟨rfl, rfl, rfl, by decide +kernel, rfl, by decide +kernel, by decide +kernel⟩
section
variable {P : Program} {w : World} {K : PySem.W.Frag} {mg : Str → Option Value} {base : Heap} {f : Addr} {fd : FuncData}
theorem ok_is_integer (F : Fun K "is_integer" "is_integer" s_is_integer f fd) (N : Nm mg) : FnOk P w K mg base CX0 1 f fd ["thing", "low", "high"] (spIsInt K) := by
  have m_isinstance := N.isinstance
  have m_int := N.int
  have m_bool := N.bool
  refine F.ok sc_is_integer (fun vs H Q E h => ?_) (fun cdv A outer s H vs Q E hr h => ?_)
  · obtain ⟨_, _, _, _, rfl, _⟩ := h
    rfl
  obtain ⟨v, d, lo, hi, rfl, hd, k⟩ := h
  refine ⟨_, (pss_one (ps_ret (pe_and (pe_callB (w_isiK (K := K)) (by rfl) m_isinstance (by decide +kernel) (pa_cons (pv 0) (pa_cons (pe_bltn (v := V.ty "int") (by rfl) m_int (by decide +kernel) rfl) pa_nil))) (pe_and (pe_not (pe_callB (w_isiK (K := K)) (by rfl) m_isinstance (by decide +kernel) (pa_cons (pv 0) (pa_cons (pe_bltn (v := V.ty "bool") (by rfl) m_bool (by decide +kernel) rfl) pa_nil)))) (pe_one (pe_chain op_le op_le (pv 1) (pv 0) (pv 2))))))), ?_⟩
  try dsimp only [nox_K]
  walk_at "gs"
  cases d with
  | int i =>
    cases hd
    refine g_isiD (d := .int i) true (.int i) (by show kitB "int" "int" = _; decide +kernel) ?_
    walk_at "gs"
    refine g_isiD (d := .int i) false (.int i) (by show kitB "int" "bool" = _; decide +kernel) ?_
    walk_at "gs"
    refine g_both (fun c => ?_) (fun c => ?_)
    · walk_at "gs"
      have e : intIn lo hi (.int i) = decide (i ≤ hi) := by simp [intIn, c]
      have q := k H (Kp.refl H)
      rw [e] at q
      exact q
    · have e : intIn lo hi (.int i) = false := by simp [intIn, c]
      have q := k H (Kp.refl H)
      rw [e] at q
      exact q
  | bool b =>
    refine g_isiD true hd (by show kitB "bool" "int" = _; decide +kernel) ?_
    walk_at "gs"
    refine g_isiD true hd (by show kitB "bool" "bool" = _; decide +kernel) ?_
    walk_at "gs"
    exact k H (Kp.refl H)
  | dict _ => cases hd
  | none =>
    refine g_isiD false hd (by show kitB "NoneType" "int" = _; decide +kernel) ?_
    walk_at "gs"
    exact k H (Kp.refl H)
  | str _ =>
    refine g_isiD false hd (by show kitB "str" "int" = _; decide +kernel) ?_
    walk_at "gs"
    exact k H (Kp.refl H)
  | list _ =>
    refine g_isiD false hd (by show kitB "list" "int" = _; decide +kernel) ?_
    walk_at "gs"
    exact k H (Kp.refl H)
  | tuple _ =>
    refine g_isiD false hd (by show kitB "tuple" "int" = _; decide +kernel) ?_
    walk_at "gs"
    exact k H (Kp.refl H)
theorem ok_is_plain (F : Fun K "is_plain" "is_plain" s_is_plain f fd) (N : Nm mg) (c_is_integer : Cal CX0 P w K mg base 1 "is_integer" (spIsInt K)) {aT aP aW : Addr} (g_TURNS : Gc mg "TURNS" (.ref aT)) (t_TURNS : KT K aT [.int (-2), .int (-1), .int 1, .int 2])
    (g_PLACES : Gc mg "PLACES" (.ref aP)) (t_PLACES : KT K aP [.int (-2), .int (-1), .int 0, .int 1]) (g_WORDS : Gc mg "WORDS" (.ref aW)) (t_WORDS : KT K aW [.str "on", .str "back", .str "none"]) : FnOk P w K mg base CX0 2 f fd ["thing", "wheels"] (spIsPlain K) := by
  have m_len := N.len
  have m_isinstance := N.isinstance
  have m_str := N.str
  refine F.ok sc_is_plain (fun vs H Q E h => ?_) (fun cdv A outer s H vs Q E hr h => ?_)
  · obtain ⟨_, _, _, _, _, rfl, _⟩ := h
    rfl
  obtain ⟨a, xs, s, ds, n, rfl, hS, hD, k⟩ := h
  refine ⟨_, (pss_cons (ps_if (PW.pt (pw_or (pt_cmpR op_lt (pe_callB (w_lenK (K := K)) (by rfl) m_len (by decide +kernel) (pa_cons (pv 0) pa_nil)) pe_int (nomark _)) (pw_or1 (pt_not (pt_val (pe_c c_is_integer hr (by first | decide | omega) (by rfl) (pa_cons (pe_ix (ix_tupK (K := K)) (pv 0) pe_int (fun _ _ => rfl)) (pa_cons pe_int (pa_cons (pe_op op_sub (pv 1) pe_int) pa_nil))))))))) (pss_one (ps_ret pe_bl)) pss_nil)
      (pss_cons (ps_if (pt_cmpR op_eq (pe_ix (ix_tupK (K := K)) (pv 0) pe_int (fun _ _ => rfl)) pe_str (nomark _)) (pss_one (ps_ret (pe_and (pe_cmpR op_eq (pe_callB (w_lenK (K := K)) (by rfl) m_len (by decide +kernel) (pa_cons (pv 0) pa_nil)) pe_int (nomark _)) (pe_one (pe_c c_is_integer hr (by first | decide | omega) (by rfl) (pa_cons (pe_ix (ix_tupK (K := K)) (pv 0) pe_int (fun _ _ => rfl)) (pa_cons (pe_ix (ix_tupK (K := K)) (pe_g (by rfl) g_PLACES) pe_int (fun _ _ => rfl)) (pa_cons (pe_ix (ix_tupK (K := K)) (pe_g (by rfl) g_PLACES) (pe_un un_neg pe_int) (fun _ _ => rfl)) pa_nil)))))))) pss_nil)
      (pss_cons (ps_if (PW.pt (pw_or (pt_cmpR op_ne (pe_ix (ix_tupK (K := K)) (pv 0) pe_int (fun _ _ => rfl)) pe_str (nomark _)) (pw_or (pt_cmpR op_ne (pe_callB (w_lenK (K := K)) (by rfl) m_len (by decide +kernel) (pa_cons (pv 0) pa_nil)) pe_int (nomark _)) (pw_or1 (pt_not (pt_val (pe_c c_is_integer hr (by first | decide | omega) (by rfl) (pa_cons (pe_ix (ix_tupK (K := K)) (pv 0) pe_int (fun _ _ => rfl)) (pa_cons (pe_ix (ix_tupK (K := K)) (pe_g (by rfl) g_TURNS) pe_int (fun _ _ => rfl)) (pa_cons (pe_ix (ix_tupK (K := K)) (pe_g (by rfl) g_TURNS) (pe_un un_neg pe_int) (fun _ _ => rfl)) pa_nil)))))))))) (pss_one (ps_ret pe_bl)) pss_nil)
      (pss_one (ps_ret (pe_and (pe_cmpR (op_inK (K := K)) (pe_ix (ix_tupK (K := K)) (pv 0) pe_int (fun _ _ => rfl)) (pe_g (by rfl) g_TURNS) (by rfl)) (pe_and (pe_callB (w_isiK (K := K)) (by rfl) m_isinstance (by decide +kernel) (pa_cons (pe_ix (ix_tupK (K := K)) (pv 0) pe_int (fun _ _ => rfl)) (pa_cons (pe_bltn (v := V.ty "str") (by rfl) m_str (by decide +kernel) rfl) pa_nil))) (pe_one (pe_cmpR (op_inK (K := K)) (pe_ix (ix_tupK (K := K)) (pv 0) pe_int (fun _ _ => rfl)) (pe_g (by rfl) g_WORDS) (by rfl)))))))))), ?_⟩
  try dsimp only [nox_K]
  walk_at "gs"
  have fin : ∀ {b : Bool} {H' : Hp}, Kp [] H H' → plainD n (.str s :: ds) = b → Q (.bl b) H' := fun k' e => e ▸ k _ k'
  cases hD with
  | nil =>
    walk_at "gs"
    exact fin (Kp.refl _) rfl
  | cons ha t => cases t with
    | nil =>
      walk_at "gs"
      exact fin (Kp.refl _) rfl
    | @cons vb xs b r hb t =>
      refine g_both (fun c => by simp at c; omega) (fun c => ?_)
      walk_at "gs"
      intro H1 k1
      walk_at "gs"
      cases e1 : intIn 0 ((n : Int) - 1) _ with
      | false =>
        walk_at "gs"
        exact fin (by walk_at "k") (by simp [plainD, e1])
      | true =>
        walk_at "gs"
        refine g_both (fun c2 => ?_) (fun c2 => ?_)
        · subst c2
          cases t with
          | nil =>
            walk_at "gs"
            intro H2 k2
            exact fin (by walk_at "k") (by simp [plainD, e1])
          | cons hc t =>
            walk_at "gs"
            exact fin (by walk_at "k") (by simp [plainD, e1])
        walk_at "gs"
        refine g_bothN (fun c3 => ?_) (fun c3 => ?_)
        · walk_at "gs"
          exact fin (by walk_at "k") (by simp [plainD, e1, c2, c3])
        subst c3
        cases t with
        | nil =>
          walk_at "gs"
          exact fin (by walk_at "k") (by simp [plainD, e1, c2])
        | @cons vc xs dc r hvc t => cases t with
          | cons hd t =>
            walk_at "gs"
            exact fin (by walk_at "k") (by simp [plainD, e1, c2])
          | nil =>
            walk_at "gs"
            intro H2 k2
            walk_at "gs"
            cases e2 : intIn (-2) 2 b with
            | false =>
              walk_at "gs"
              have e3 : turnIn b = false := by
                cases b with
                | int i =>
                  simp [intIn] at e2
                  simp [turnIn]
                  omega
                | _ => rfl
              exact fin (by walk_at "k") (by simp [plainD, e1, c2, e3])
            | true =>
              cases b with
              | int i =>
                cases hb
                walk_at "gs"
                rw [turn_inV]
                cases e3 : turnIn (.int i) with
                | false =>
                  walk_at "gs"
                  exact fin (by walk_at "k") (by simp [plainD, e1, c2, e3])
                | true =>
                  walk_at "gs"
                  cases dc with
                  | str z =>
                    cases hvc
                    refine g_isi (t := "str") (b := true) (.base (.str z)) (by decide +kernel) ?_
                    walk_at "gs"
                    rw [word_inV]
                    exact fin (by walk_at "k") (by simp [plainD, e1, c2, e3])
                  | dict _ => cases hvc
                  | none =>
                    refine g_isiD false (Kp.dp (by walk_at "k") hvc) (by show kitB "NoneType" "str" = _; decide +kernel) ?_
                    walk_at "gs"
                    exact fin (by walk_at "k") (by simp [plainD, e1, c2, e3, wordIn])
                  | bool _ =>
                    refine g_isiD false (Kp.dp (by walk_at "k") hvc) (by show kitB "bool" "str" = _; decide +kernel) ?_
                    walk_at "gs"
                    exact fin (by walk_at "k") (by simp [plainD, e1, c2, e3, wordIn])
                  | int _ =>
                    refine g_isiD false (Kp.dp (by walk_at "k") hvc) (by show kitB "int" "str" = _; decide +kernel) ?_
                    walk_at "gs"
                    exact fin (by walk_at "k") (by simp [plainD, e1, c2, e3, wordIn])
                  | list _ =>
                    refine g_isiD false (Kp.dp (by walk_at "k") hvc) (by show kitB "list" "str" = _; decide +kernel) ?_
                    walk_at "gs"
                    exact fin (by walk_at "k") (by simp [plainD, e1, c2, e3, wordIn])
                  | tuple _ =>
                    refine g_isiD false (Kp.dp (by walk_at "k") hvc) (by show kitB "tuple" "str" = _; decide +kernel) ?_
                    walk_at "gs"
                    exact fin (by walk_at "k") (by simp [plainD, e1, c2, e3, wordIn])
              | _ => exact absurd e2 (by simp [intIn])
theorem ok_are_plain (F : Fun K "are_plain" "are_plain" s_are_plain f fd) (N : Nm mg) (c_is_plain : Cal CX0 P w K mg base 2 "is_plain" (spIsPlain K)) : FnOk P w K mg base CX0 3 f fd ["thing", "wheels"] (spArePlain K) := by
  have m_isinstance := N.isinstance
  have m_str := N.str
  have m_tuple := N.tuple
  have m_all := N.all
  refine F.ok sc_are_plain (fun vs H Q E h => ?_) (fun cdv A outer s H vs Q E hr h => ?_)
  · obtain ⟨_, _, _, rfl, _⟩ := h
    rfl
  obtain ⟨v, d, n, rfl, hD, hsh, hsz, k⟩ := h
  refine ⟨_, (pss_cons (ps_if (PW.pt (pw_or (pt_not (pt_val (pe_callB (w_isiK (K := K)) (by rfl) m_isinstance (by decide +kernel) (pa_cons (pv 0) (pa_cons (pe_bltn (v := V.ty "tuple") (by rfl) m_tuple (by decide +kernel) rfl) pa_nil))))) (pw_or1 (pt_not (pt_val (pe_callB (cr_allK (K := K) (by rfl)) (by rfl) m_all (by decide +kernel) (pa_cons (pe_lc (own := [("step", 2)]) (tt := tYes) (by rfl) sc_are_plain.nd (pi_tupK (K := K) (pv 0)) (blkOk_by (own := [("step", 2)]) (N := n_are_plain) (sc := defScope s_are_plain) (by decide +kernel)) (fun _ _ _ _ _ => (pg_name (i := 2) sc_are_plain.nd rfl (by first | exact Or.inl rfl | exact Or.inr rfl))) (fun _ _ _ _ _ => pts_nil) (fun _ _ _ _ _ => (pe_and (pe_callB (w_isiK (K := K)) (by rfl) m_isinstance (by decide +kernel) (pa_cons (pv 2) (pa_cons (pe_bltn (v := V.ty "tuple") (by rfl) m_tuple (by decide +kernel) rfl) pa_nil))) (pe_one (pe_cmpR (op_neDK (K := K) hr) (pv 2) (pe_tup pa_nil) (nomark _)))))) pa_nil))))))) (pss_one (ps_ret pe_bl)) pss_nil)
      (pss_one (ps_ret (pe_callB (cr_allK (K := K) (by rfl)) (by rfl) m_all (by decide +kernel) (pa_cons (pe_lc (own := [("step", 2)]) (tt := tYes) (by rfl) sc_are_plain.nd (pi_tupK (K := K) (pv 0)) (blkOk_by (own := [("step", 2)]) (N := n_are_plain) (sc := defScope s_are_plain) (by decide +kernel)) (fun _ _ _ _ _ => (pg_name (i := 2) sc_are_plain.nd rfl (by first | exact Or.inl rfl | exact Or.inr rfl))) (fun _ _ _ _ _ => pts_nil) (fun _ _ _ _ _ => (pe_and (pe_callB (w_isiK (K := K)) (by rfl) m_isinstance (by decide +kernel) (pa_cons (pe_ix (ix_tupK (K := K)) (pv 2) pe_int (fun _ _ => rfl)) (pa_cons (pe_bltn (v := V.ty "str") (by rfl) m_str (by decide +kernel) rfl) pa_nil))) (pe_one (pe_c c_is_plain hr (by first | decide | omega) (by rfl) (pa_cons (pv 2) (pa_cons (pv 1) pa_nil))))))) pa_nil))))), ?_⟩
  try dsimp only [nox_K]
  walk_at "gs"
  have fin : ∀ {b : Bool} {H' : Hp}, Kp [] H H' → plainsD n d = b → Q (.bl b) H' := fun k' e => e ▸ k _ k'
  by_cases htup : tyD d = "tuple"
  · cases d with
    | tuple ds =>
      refine g_isiD true hD (by show kitB "tuple" "tuple" = _; decide +kernel) ?_
      obtain @⟨⟩ | @⟨⟩ | @⟨⟩ | @⟨⟩ | @⟨⟩ | @⟨a, xs, _, hS, hA⟩ := hD
      walk_at "gs"
      refine g_compT (xs := xs) (fun D i acc H' => Kp [] H H' ∧ acc = ((ds.take i).map neTup).map V.bl) (fun D H1 nD k1 => ⟨k1, rfl⟩) (fun D i acc H' _ ⟨k1, _⟩ => k1.sqT hS) ?_ ?_
      · rintro D i x acc H' nD hx eD ⟨k1, rfl⟩
        obtain ⟨e, he, hx'⟩ := dp_item hA hx
        have hm := List.mem_of_getElem? he
        have hxe := k1.dp hx'
        have hlen : ds.length ≤ 1000 := hsz _ rfl
        have hz : (((ds.take i).map neTup).map V.bl).length ≤ 1000000 := by
          simp
          omega
        have et := take_next (g := neTup) he
        have hsh2 := shaped_mem hsh e hm
        walk_at "gs"
        by_cases ht2 : tyD e = "tuple"
        · cases e with
          | tuple es =>
            refine g_isiD true hxe (by show kitB "tuple" "tuple" = _; decide +kernel) ?_
            walk_at "gs"
            intro z H2 nz k2 e2
            refine g_rNeDp (e := .tuple []) (k2.dp hxe) (.tup (SqT.of e2) .nil) hsh2 rfl ?_
            refine g_xEl (by walk_at "h") hz fun H5 k5 e5 => ⟨by walk_at "k", ?_⟩
            rw [et, List.map_append]
            cases es <;> rfl
          | _ => exact (not_tup ht2 nofun).elim
        · refine g_isiD false hxe (kit_no ht2) ?_
          walk_at "gs"
          refine g_xEl (by walk_at "h") hz fun H5 k5 e5 => ⟨by walk_at "k", ?_⟩
          rw [et, List.map_append]
          cases e with
          | tuple _ => exact absurd rfl ht2
          | _ => rfl
      · rintro D acc H' nD eD ⟨k1, rfl⟩
        have hl2 := dpA_len hA
        rw [hl2, List.take_length] at eD
        walk_at "gs"
        refine g_all (SqL.of eD) ?_
        walk_at "gs"
        refine g_two (fun c => ?_) (fun c => ?_)
        · walk_at "gs"
          refine fin (by walk_at "k") ?_
          simp only [Bool.not_eq_true', List.all_eq_false, List.mem_map] at c
          obtain ⟨b, ⟨e, he, rfl⟩, hb⟩ := c
          simp only [plainsD, List.all_eq_false]
          refine ⟨e, he, fun z => hb ?_⟩
          cases e with
          | tuple es => cases es with
            | nil => cases z
            | cons _ _ => rfl
          | _ => cases z
        have hall : ∀ e ∈ ds, neTup e = true := by
          simp only [Bool.not_eq_false', List.all_eq_true, List.mem_map] at c
          exact fun e he => c _ ⟨e, he, rfl⟩
        walk_at "gs"
        have k1' : Kp [] H H' := k1
        refine g_compT (xs := xs) (fun D i acc H2 => Kp [] H H2 ∧ acc = ((ds.take i).map (isPlD n)).map V.bl) (fun D H1 nD k1 => ⟨by walk_at "k", rfl⟩) (fun D i acc H' _ ⟨k1, _⟩ => k1.sqT hS) ?_ ?_
        · rintro D2 i x acc H2 nD2 hx eD2 ⟨k2, rfl⟩
          obtain ⟨e, he, hx'⟩ := dp_item hA hx
          have hm := List.mem_of_getElem? he
          have hxe := k2.dp hx'
          have hlen : ds.length ≤ 1000 := hsz _ rfl
          have hz : (((ds.take i).map (isPlD n)).map V.bl).length ≤ 1000000 := by
            simp
            omega
          have et := take_next (g := isPlD n) he
          have ht := hall e hm
          cases e with
          | tuple es => cases es with
            | nil => cases ht
            | cons e0 es =>
              obtain @⟨⟩ | @⟨⟩ | @⟨⟩ | @⟨⟩ | @⟨⟩ | @⟨a2, xs2, _, hS2, hA2⟩ := hxe
              cases hA2 with
              | @cons v0 vs2 _ _ h0 hA2 =>
                walk_at "gs"
                cases e0 with
                | str s0 =>
                  cases h0
                  refine g_isi (t := "str") (b := true) (.base (.str s0)) (by decide +kernel) ?_
                  walk_at "gs"
                  intro H3 k3
                  refine g_xEl (by walk_at "h") hz fun H5 k5 e5 => ⟨by walk_at "k", ?_⟩
                  rw [et, List.map_append]
                  rfl
                | dict _ => cases h0
                | _ =>
                  refine g_isiD false h0 ?_ ?_
                  · first | (show kitB "NoneType" "str" = _; decide +kernel) | (show kitB "bool" "str" = _; decide +kernel) | (show kitB "int" "str" = _; decide +kernel) | (show kitB "list" "str" = _; decide +kernel) | (show kitB "tuple" "str" = _; decide +kernel)
                  walk_at "gs"
                  refine g_xEl (by walk_at "h") hz fun H5 k5 e5 => ⟨by walk_at "k", ?_⟩
                  rw [et, List.map_append]
                  rfl
          | _ => cases ht
        · rintro D2 acc H2 nD2 eD2 ⟨k2, rfl⟩
          rw [hl2, List.take_length] at eD2
          walk_at "gs"
          refine g_all (SqL.of eD2) ?_
          refine fin (by walk_at "k") ?_
          simp only [plainsD, List.all_map]
          rfl
    | _ => exact (not_tup htup nofun).elim
  · refine g_isiD false hD (kit_no htup) ?_
    walk_at "gs"
    refine fin (Kp.refl _) ?_
    cases d with
    | tuple _ => exact absurd rfl htup
    | _ => rfl
theorem ok_is_step (F : Fun K "is_step" "is_step" s_is_step f fd) (N : Nm mg) (c_is_integer : Cal CX0 P w K mg base 1 "is_integer" (spIsInt K)) (c_is_plain : Cal CX0 P w K mg base 2 "is_plain" (spIsPlain K)) (c_are_plain : Cal CX0 P w K mg base 3 "are_plain" (spArePlain K)) : FnOk P w K mg base CX0 4 f fd ["thing", "wheels"] (spIsStep K) := by
  have m_isinstance := N.isinstance
  have m_str := N.str
  have m_tuple := N.tuple
  have m_all := N.all
  have m_len := N.len
  refine F.ok sc_is_step (fun vs H Q E h => ?_) (fun cdv A outer s H vs Q E hr h => ?_)
  · obtain ⟨_, _, _, rfl, _⟩ := h
    rfl
  obtain ⟨v, d, n, rfl, hD, hsh, hsz, k⟩ := h
  refine ⟨_, (pss_cons (ps_if (PW.pt (pw_or (pt_not (pt_val (pe_callB (w_isiK (K := K)) (by rfl) m_isinstance (by decide +kernel) (pa_cons (pv 0) (pa_cons (pe_bltn (v := V.ty "tuple") (by rfl) m_tuple (by decide +kernel) rfl) pa_nil))))) (pw_or (pt_cmpR (op_eqDK (K := K) hr) (pv 0) (pe_tup pa_nil) (nomark _)) (pw_or1 (pt_not (pt_val (pe_callB (w_isiK (K := K)) (by rfl) m_isinstance (by decide +kernel) (pa_cons (pe_ix (ix_tupK (K := K)) (pv 0) pe_int (fun _ _ => rfl)) (pa_cons (pe_bltn (v := V.ty "str") (by rfl) m_str (by decide +kernel) rfl) pa_nil))))))))) (pss_one (ps_ret pe_bl)) pss_nil)
      (pss_cons (ps_if (pt_cmpR op_ne (pe_ix (ix_tupK (K := K)) (pv 0) pe_int (fun _ _ => rfl)) pe_str (nomark _)) (pss_one (ps_ret (pe_c c_is_plain hr (by first | decide | omega) (by rfl) (pa_cons (pv 0) (pa_cons (pv 1) pa_nil))))) pss_nil)
      (pss_cons (ps_if (PW.pt (pw_or (pt_cmpR op_ne (pe_callB (w_lenK (K := K)) (by rfl) m_len (by decide +kernel) (pa_cons (pv 0) pa_nil)) pe_int (nomark _)) (pw_or1 (pt_not (pt_val (pe_callB (cr_allK (K := K) (by rfl)) (by rfl) m_all (by decide +kernel) (pa_cons (pe_lc (own := [("wheel", 2)]) (tt := tYes) (by rfl) sc_is_step.nd (pi_tupK (K := K) (pe_slice (sl_tupAK (K := K)) (pv 0) (po_some pe_int) (po_some pe_int))) (blkOk_by (own := [("wheel", 2)]) (N := n_is_step) (sc := defScope s_is_step) (by decide +kernel)) (fun _ _ _ _ _ => (pg_name (i := 2) sc_is_step.nd rfl (by first | exact Or.inl rfl | exact Or.inr rfl))) (fun _ _ _ _ _ => pts_nil) (fun _ _ _ _ _ => (pe_c c_is_integer hr (by first | decide | omega) (by rfl) (pa_cons (pv 2) (pa_cons pe_int (pa_cons (pe_op op_sub (pv 1) pe_int) pa_nil)))))) pa_nil))))))) (pss_one (ps_ret pe_bl)) pss_nil)
      (pss_one (ps_ret (pe_and (pe_cmpR op_lt (pe_ix (ix_tupK (K := K)) (pv 0) pe_int (fun _ _ => rfl)) (pe_ix (ix_tupK (K := K)) (pv 0) pe_int (fun _ _ => rfl)) (nomark _)) (pe_and (pe_c c_are_plain hr (by first | decide | omega) (by rfl) (pa_cons (pe_ix (ix_tupK (K := K)) (pv 0) pe_int (fun _ _ => rfl)) (pa_cons (pv 1) pa_nil))) (pe_one (pe_c c_are_plain hr (by first | decide | omega) (by rfl) (pa_cons (pe_ix (ix_tupK (K := K)) (pv 0) pe_int (fun _ _ => rfl)) (pa_cons (pv 1) pa_nil))))))))))), ?_⟩
  try dsimp only [nox_K]
  walk_at "gs"
  have fin : ∀ {b : Bool} {H' : Hp}, Kp [] H H' → stepD n d = b → Q (.bl b) H' := fun k' e => e ▸ k _ k'
  by_cases htup : tyD d = "tuple"
  · cases d with
    | tuple ds =>
      refine g_isiD true hD (by show kitB "tuple" "tuple" = _; decide +kernel) ?_
      have hD' := hD
      obtain @⟨⟩ | @⟨⟩ | @⟨⟩ | @⟨⟩ | @⟨⟩ | @⟨a, xs, _, hS, hA⟩ := hD'
      walk_at "gs"
      intro z H1 nz k1 e1
      refine g_rEqDp (e := .tuple []) (k1.dp hD) (.tup (SqT.of e1) .nil) hsh rfl ?_
      cases hA with
      | nil =>
        walk_at "gs"
        exact fin (by walk_at "k") rfl
      | @cons v0 xs e0 es h0 hA =>
        walk_at "gs"
        by_cases hstr : tyD e0 = "str"
        · cases e0 with
          | str s0 =>
            cases h0
            refine g_isi (t := "str") (b := true) (.base (.str s0)) (by decide +kernel) ?_
            walk_at "gs"
            refine g_bothN (fun c => ?_) (fun c => ?_)
            · walk_at "gs"
              intro H2 k2
              refine fin (by walk_at "k") ?_
              simp [stepD, c]
            subst c
            walk_at "gs"
            cases hA with
            | nil =>
              walk_at "gs"
              exact fin (by walk_at "k") rfl
            | @cons va xs ea es ha hA => cases hA with
              | nil =>
                walk_at "gs"
                exact fin (by walk_at "k") rfl
              | @cons vb xs eb es hb hA => cases hA with
                | nil =>
                  walk_at "gs"
                  exact fin (by walk_at "k") rfl
                | @cons vf xs ef es hf hA => cases hA with
                  | nil =>
                    walk_at "gs"
                    exact fin (by walk_at "k") rfl
                  | @cons vg xs eg es hg hA => cases hA with
                    | cons hx hA =>
                      walk_at "gs"
                      exact fin (by walk_at "k") rfl
                    | nil =>
                      walk_at "gs"
                      intro q H2 k2 hq
                      have hq' : SqT K H2 q [va, vb] := hq
                      clear hq
                      walk_at "gs"
                      have hA2 : DpAll K H [va, vb] [ea, eb] := .cons ha (.cons hb .nil)
                      have kk2 : Kp [] H H2 := by walk_at "k"
                      refine g_compT (xs := [va, vb]) (fun D i acc H3 => Kp [] H2 H3 ∧ acc = (([ea, eb].take i).map (intIn 0 ((n : Int) - 1))).map V.bl) (fun D H1 nD k1 => ⟨k1, rfl⟩) (fun D i acc H' _ ⟨k1, _⟩ => k1.sqT hq') ?_ ?_
                      · rintro D2 i x acc H3 nD2 hx eD2 ⟨k3, rfl⟩
                        obtain ⟨e, he, hx'⟩ := dp_item hA2 hx
                        have hxe := (kk2.trans k3).dp hx'
                        have hz : ((([ea, eb].take i).map (intIn 0 ((n : Int) - 1))).map V.bl).length ≤ 1000000 := by
                          simp
                          omega
                        have et := take_next (g := intIn 0 ((n : Int) - 1)) he
                        walk_at "gs"
                        intro H4 k4
                        refine g_xEl (by walk_at "h") hz fun H5 k5 e5 => ⟨by walk_at "k", ?_⟩
                        rw [et, List.map_append]
                        rfl
                      · rintro D2 acc H3 nD2 eD2 ⟨k3, rfl⟩
                        have kk3 : Kp [] H H3 := kk2.trans k3
                        walk_at "gs"
                        refine g_all (bs := [intIn 0 ((n : Int) - 1) ea, intIn 0 ((n : Int) - 1) eb]) (SqL.of eD2) ?_
                        walk_at "gs"
                        have hmem : ∀ e, e ∈ ([.str "alike", ea, eb, ef, eg] : List PyData) → SeqAt.shaped e = true ∧ Sz1 e := fun e he => ⟨shaped_mem hsh e he, (hsz _ rfl).2 e he⟩
                        obtain ⟨sf, zf⟩ := hmem ef (by simp)
                        obtain ⟨sg, zg⟩ := hmem eg (by simp)
                        cases e1 : intIn 0 ((n : Int) - 1) ea with
                        | false =>
                          walk_at "gs"
                          exact fin (by walk_at "k") (by simp [stepD, e1])
                        | true => cases e2 : intIn 0 ((n : Int) - 1) eb with
                          | false =>
                            walk_at "gs"
                            exact fin (by walk_at "k") (by simp [stepD, e1, e2])
                          | true =>
                            walk_at "gs"
                            cases ea with
                            | int i => cases eb with
                              | int j =>
                                cases ha
                                cases hb
                                walk_at "gs"
                                refine g_both (fun c => ?_) (fun c => ?_)
                                · walk_at "gs"
                                  intro H4 k4
                                  walk_at "gs"
                                  cases e3 : plainsD n ef with
                                  | false =>
                                    walk_at "gs"
                                    exact fin (by walk_at "k") (by simp [stepD, e1, e2, e3])
                                  | true =>
                                    walk_at "gs"
                                    intro H5 k5
                                    exact fin (by walk_at "k") (by simp [stepD, e1, e2, e3, lessD, c])
                                · exact fin (by walk_at "k") (by simp [stepD, e1, e2, lessD, c])
                              | _ => exact absurd e2 (by simp [intIn])
                            | _ => exact absurd e1 (by simp [intIn])
          | none => exact absurd (show "NoneType" = "str" from hstr) (by decide)
          | bool _ => exact absurd (show "bool" = "str" from hstr) (by decide)
          | int _ => exact absurd (show "int" = "str" from hstr) (by decide)
          | tuple _ => exact absurd (show "tuple" = "str" from hstr) (by decide)
          | list _ => exact absurd (show "list" = "str" from hstr) (by decide)
          | dict _ => exact absurd (show "dict" = "str" from hstr) (by decide)
        · refine g_isiD false (Kp.dp k1 h0) ?_ ?_
          · cases e0 with
            | str _ => exact absurd rfl hstr
            | none => show kitB "NoneType" "str" = _; decide +kernel
            | bool _ => show kitB "bool" "str" = _; decide +kernel
            | int _ => show kitB "int" "str" = _; decide +kernel
            | tuple _ => show kitB "tuple" "str" = _; decide +kernel
            | list _ => show kitB "list" "str" = _; decide +kernel
            | dict _ => cases h0
          walk_at "gs"
          refine fin (by walk_at "k") ?_
          cases e0 with
          | str _ => exact absurd rfl hstr
          | _ => rfl
    | _ => exact (not_tup htup nofun).elim
  · refine g_isiD false hD (kit_no htup) ?_
    walk_at "gs"
    refine fin (Kp.refl _) ?_
    cases d with
    | tuple _ => exact absurd rfl htup
    | _ => rfl
end
abbrev s_turned : Stmt := topS 25
abbrev n_turned : List Str := ["showing", "sizes", "wheel", "by", "word", "found", "spot", "full"]
theorem sc_turned : FnScope n_turned ["showing", "sizes", "wheel", "by", "word"] (defScope s_turned) := ⟨rfl, rfl, rfl, by decide +kernel, rfl, by decide +kernel, by decide +kernel⟩
abbrev s_stepped : Stmt := topS 26
abbrev n_stepped : List Str := ["showing", "sizes", "step", "place"]
theorem sc_stepped : FnScope n_stepped ["showing", "sizes", "step"] (defScope s_stepped) := ⟨rfl, rfl, rfl, by decide +kernel, rfl, by decide +kernel, by decide +kernel⟩
abbrev s_ran : Stmt := topS 27
abbrev n_ran : List Str := ["showing", "sizes", "steps", "step"]
theorem sc_ran : FnScope n_ran ["showing", "sizes", "steps"] (defScope s_ran) := ⟨rfl, rfl, rfl, by decide +kernel, rfl, by decide +kernel, by decide +kernel⟩
section
variable {P : Program} {w : World} {K : PySem.W.Frag} {mg : Str → Option Value} {base : Heap} {f : Addr} {fd : FuncData}
theorem ok_turned (F : Fun K "turned" "turned" s_turned f fd) (N : Nm mg) {aT : Addr} (g_TAKEN : Gc mg "TAKEN" (.ref aT)) (t_TAKEN : TakenT K w aT) : FnOk P w K mg base CX0 1 f fd ["showing", "sizes", "wheel", "by", "word"] (spTurned K) := by
  have m_list := N.list
  have m_tuple := N.tuple
  have m_len := N.len
  refine F.ok sc_turned (fun vs H Q E h => ?_) (fun cdv A outer s H vs Q E hr h => ?_)
  · obtain ⟨_, _, _, _, _, _, _, rfl, _⟩ := h
    rfl
  obtain ⟨a, b, z, s, wh, by_, kd, rfl, hz, hs, hl, h1, h2, h3, k⟩ := h
  refine ⟨_, (pss_cons (ps_set (i := 5) sc_turned.nd rfl (by first | exact Or.inl rfl | exact Or.inr rfl) (pe_callTy (w_listK (K := K)) (by rfl) m_list (by decide +kernel) (pa_cons (pv 0) pa_nil)))
      (pss_cons (ps_while PassesOwn.never (PW.pt (pw_and (pt_cmpR op_ne (pv 3) pe_int (nomark _)) (pw_and1 (pt_cmpR op_lt (pv 2) (pe_callB (w_lenK (K := K)) (by rfl) m_len (by decide +kernel) (pa_cons (pv 5) pa_nil)) (nomark _))))) (pss_cons (ps_set (i := 6) sc_turned.nd rfl (by first | exact Or.inl rfl | exact Or.inr rfl) (pe_op op_add (pe_ix (ix_listK (K := K)) (pv 5) (pv 2) (fun _ _ => rfl)) (pv 3)))
      (pss_cons (ps_set (i := 7) sc_turned.nd rfl (by first | exact Or.inl rfl | exact Or.inr rfl) (pe_ifExp (pt_cmpR op_ge (pv 6) (pe_ix (ix_tupK (K := K)) (pv 1) (pv 2) (fun _ _ => rfl)) (nomark _)) pe_int (pe_ifExp (pt_cmpR op_lt (pv 6) pe_int (nomark _)) (pe_un un_neg pe_int) pe_int)))
      (pss_cons (ps_asg (pe_op op_sub (pv 6) (pe_op op_mul (pv 7) (pe_ix (ix_tupK (K := K)) (pv 1) (pv 2) (fun _ _ => rfl)))) (pg_sub (pv 5) (pv 2) set_list))
      (pss_one (ps_par (i := 3) (j := 2) (by rfl) sc_turned.nd rfl rfl (by decide) rfl rfl (pa_cons (pe_op op_mul (pv 7) (pe_ix (ix_kdictK (K := K) (w := w)) (pe_g (by rfl) g_TAKEN) (pv 4) (fun _ _ => rfl))) (pa_cons (pe_op op_add (pv 2) pe_int) pa_nil)) (by rfl)))))))
      (pss_one (ps_ret (pe_callTy (w_tupleK (K := K)) (by rfl) m_tuple (by decide +kernel) (pa_cons (pv 5) pa_nil)))))), ?_⟩
  try dsimp only [nox_K]
  walk_at "gs"
  intro l H1 nl k1 e1
  walk_at "gs"
  refine g_while (fun m σ' H' => ∃ (z' : List Int) (w' : Nat) (b' : Int) (y6 y7 : Option V), m = z.length - w' ∧ σ' = [some (.ref a), some (.ref b), some (.int w'), some (.int b'), some (.str kd.s), some (.ref l), y6, y7] ∧ H' l = some (.lst (vI z')) ∧ z'.length = z.length ∧ -2 ≤ b' ∧ b' ≤ 2 ∧ turnZ s z' w' b' kd.c = turnZ s z wh by_ kd.c ∧ Kp [] H H')
    ⟨_, z, wh, by_, none, none, rfl, rfl, e1, rfl, h2, h3, rfl, by walk_at "k"⟩ ?_
  rintro m σ' H' ⟨z', w', b', y6, y7, rfl, rfl, eL, hl', hb1, hb2, hT, k'⟩
  have fin : turnZ s z' w' b' kd.c = z' → ∀ (l : Addr) (H2 : Hp), H' l = none → Kp [] H' H2 → H2 l = some (HO.tup (vI z')) → Q (V.ref l) H2 := fun e p H2 np k2 e2 => by
    refine k p H2 (by walk_at "k") ?_
    rw [← hT, e]
    exact e2
  walk_at "gs"
  refine g_bothN (fun c => ?_) (fun c => ?_)
  · walk_at "gs"
    refine g_whB (fun c2 => ?_) (fun c2 => ?_)
    · rw [vI_length] at c2
      have hw : w' < z'.length := by omega
      have hws : w' < s.length := by omega
      have hx := List.getElem?_eq_getElem hw
      have hy := List.getElem?_eq_getElem hws
      generalize z'[w'] = x at hx
      generalize s[w'] = y at hy
      have st := turnZ_step (c := kd.c) c hx hy
      walk_at "gs"
      refine g_ixL (by walk_at "h") (atI_nat (vI_get hx)) ?_
      walk_at "gs"
      refine g_ixT (by walk_at "h") (atI_nat (vI_get hy)) ?_
      walk_at "gs"
      refine g_both (fun c3 => ?_) (fun c3 => ?_)
      · rw [if_pos c3] at st
        walk_at "gs"
        refine g_ixT (by walk_at "h") (atI_nat (vI_get hy)) ?_
        walk_at "gs"
        refine g_setL (j := w') (by walk_at "h") (ixN_at rfl (by rw [vI_length]; exact hw)) fun H2 k2 e2 => ?_
        walk_at "gs"
        refine g_taken t_TAKEN ?_
        walk_at "gs"
        refine ⟨z'.length - (w' + 1), by omega, z'.set w' (x + b' - 1 * y), w' + 1, 1 * kd.c, _, _, by omega, rfl, ?_, by simp [hl'], ?_, ?_, by rw [← st, hT], by walk_at "k"⟩
        · rw [e2, vI, vI, List.map_set]
        all_goals (cases kd <;> decide)
      · rw [if_neg c3] at st
        walk_at "gs"
        refine g_both (fun c4 => ?_) (fun c4 => ?_)
        · rw [if_pos c4] at st
          walk_at "gs"
          refine g_ixT (by walk_at "h") (atI_nat (vI_get hy)) ?_
          walk_at "gs"
          refine g_setL (j := w') (by walk_at "h") (ixN_at rfl (by rw [vI_length]; exact hw)) fun H2 k2 e2 => ?_
          walk_at "gs"
          refine g_taken t_TAKEN ?_
          walk_at "gs"
          refine ⟨z'.length - (w' + 1), by omega, z'.set w' (x + b' - -1 * y), w' + 1, -1 * kd.c, _, _, by omega, rfl, ?_, by simp [hl'], ?_, ?_, by rw [← st, hT], by walk_at "k"⟩
          · rw [e2, vI, vI, List.map_set]
          all_goals (cases kd <;> decide)
        · rw [if_neg c4] at st
          walk_at "gs"
          refine g_ixT (by walk_at "h") (atI_nat (vI_get hy)) ?_
          walk_at "gs"
          refine g_setL (j := w') (by walk_at "h") (ixN_at rfl (by rw [vI_length]; exact hw)) fun H2 k2 e2 => ?_
          walk_at "gs"
          refine g_taken t_TAKEN ?_
          walk_at "gs"
          refine ⟨z'.length - (w' + 1), by omega, z'.set w' (x + b' - 0 * y), w' + 1, 0 * kd.c, _, _, by omega, rfl, ?_, by simp [hl'], ?_, ?_, by rw [← st, hT], by walk_at "k"⟩
          · rw [e2, vI, vI, List.map_set]
          all_goals (cases kd <;> decide)
    · rw [vI_length] at c2
      walk_at "gs"
      exact fin (turnZ_end (by omega))
  · subst c
    walk_at "gs"
    exact fin (turnZ_zero _ _ _ _)
theorem ok_stepped {n lv lv' : Nat} (F : Fun K "stepped" "stepped" s_stepped f fd) (N : Nm mg) (c_turned : Cal CX0 P w K mg base 1 "turned" (spTurned K)) (c_ran : Cal CX0 P w K mg base lv "ran" (spRan K n)) (hlv : lv ≤ lv') (hlv' : 1 ≤ lv') : FnOk P w K mg base CX0 (lv' + 1) f fd ["showing", "sizes", "step"] (spStepped K n) := by
  refine F.ok sc_stepped (fun vs H Q E h => ?_) (fun cdv A outer s H vs Q E hr h => ?_)
  · obtain ⟨_, _, _, _, _, _, _, rfl, _⟩ := h
    rfl
  obtain ⟨τ, a, b, z, s, v, st, rfl, hzB, hs, hl, h1, hv, ho, hd, k⟩ := h
  have hz := hzB.1
  refine ⟨_, (pss_cons (ps_if (pt_cmpR op_eq (pe_ix (ix_tupK (K := K)) (pv 2) pe_int (fun _ _ => rfl)) pe_str (nomark _)) (pss_one (ps_ret (pe_c c_turned hr (by first | decide | omega) (by rfl) (pa_cons (pv 0) (pa_cons (pv 1) (pa_cons (pe_ix (ix_tupK (K := K)) (pv 2) pe_int (fun _ _ => rfl)) (pa_cons (pe_ix (ix_tupK (K := K)) (pv 2) pe_int (fun _ _ => rfl)) (pa_cons (pe_ix (ix_tupK (K := K)) (pv 2) pe_int (fun _ _ => rfl)) pa_nil)))))))) pss_nil)
      (pss_cons (ps_if (pt_cmpR op_eq (pe_ix (ix_tupK (K := K)) (pv 2) pe_int (fun _ _ => rfl)) pe_str (nomark _)) (pss_cons (ps_set (i := 3) sc_stepped.nd rfl (by first | exact Or.inl rfl | exact Or.inr rfl) (pe_ifExp (pt_cmpR op_ge (pe_ix (ix_tupK (K := K)) (pv 2) pe_int (fun _ _ => rfl)) pe_int (nomark _)) (pe_ix (ix_tupK (K := K)) (pv 2) pe_int (fun _ _ => rfl)) (pe_op op_add (pe_ix (ix_tupK (K := K)) (pv 1) (pe_ix (ix_tupK (K := K)) (pv 2) pe_int (fun _ _ => rfl)) (fun _ _ => rfl)) (pe_ix (ix_tupK (K := K)) (pv 2) pe_int (fun _ _ => rfl)))))
      (pss_one (ps_ret (pe_tup (pa_starK (K := K) (pe_slice (sl_tupAK (K := K)) (pv 0) po_none (po_some (pe_ix (ix_tupK (K := K)) (pv 2) pe_int (fun _ _ => rfl)))) (pa_cons (pv 3) (pa_starK (K := K) (pe_slice (sl_tupAK (K := K)) (pv 0) (po_some (pe_op op_add (pe_ix (ix_tupK (K := K)) (pv 2) pe_int (fun _ _ => rfl)) pe_int)) po_none) pa_nil))))))) pss_nil)
      (pss_one (ps_ret (pe_c c_ran hr (by first | decide | omega) (by rfl) (pa_cons (pv 0) (pa_cons (pv 1) (pa_cons (pe_ifExp (pt_cmpR op_eq (pe_ix (ix_tupK (K := K)) (pv 0) (pe_ix (ix_tupK (K := K)) (pv 2) pe_int (fun _ _ => rfl)) (fun _ _ => rfl)) (pe_ix (ix_tupK (K := K)) (pv 0) (pe_ix (ix_tupK (K := K)) (pv 2) pe_int (fun _ _ => rfl)) (fun _ _ => rfl)) (nomark _)) (pe_ix (ix_tupK (K := K)) (pv 2) pe_int (fun _ _ => rfl)) (pe_ix (ix_tupK (K := K)) (pv 2) pe_int (fun _ _ => rfl))) pa_nil)))))))), ?_⟩
  try dsimp only [nox_K]
  cases st with
  | pl p => cases p with
    | turn wh b' kd =>
      obtain ⟨t, rfl, ht⟩ := td_turn hv
      obtain ⟨o1, o2⟩ := ho
      walk_at "gs"
      exact ap_turned hz hs hl h1 (by omega) (by omega) fun p H' k' s' => k p H' k' (.at_ s')
    | set wh p =>
      obtain ⟨t, rfl, ht⟩ := td_set hv
      obtain ⟨o1, o2, o3⟩ := ho
      have o1' : wh < s.length := o1
      have hy := List.getElem?_eq_getElem o1'
      have fin : ∀ (pl : Int), (if 0 ≤ p then p else s.getD wh 0 + p) = pl → (vI z).take wh ++ (V.int pl :: ((vI z).drop (wh + 1) ++ [])) = vI (stZ s z (.pl (.set wh p))) := fun pl e => by
        show _ = vI (z.set wh _)
        rw [e, List.append_nil, vI, vI, List.map_set, List.set_eq_take_append_cons_drop, if_pos (by rw [List.length_map]; omega)]
      walk_at "gs"
      refine g_both (fun c => ?_) (fun c => ?_)
      · walk_at "gs"
        intro q1 H2 k2 s2
        rw [cutV_take] at s2
        walk_at "gs"
        intro q2 H3 k3 s3
        rw [show ((wh : Int) + 1) = ((wh + 1 : Nat) : Int) from by omega, cutV_drop] at s3
        walk_at "gs"
        refine g_mkT (by simp [vI]; omega) fun r H4 nr k4 e4 => ?_
        refine k r H4 (by walk_at "k") ?_
        rw [← fin p (if_pos c)]
        exact .at_ e4
      · walk_at "gs"
        refine g_ixT (by walk_at "h") (atI_nat (vI_get hy)) ?_
        walk_at "gs"
        intro q1 H2 k2 s2
        rw [cutV_take] at s2
        walk_at "gs"
        intro q2 H3 k3 s3
        rw [show ((wh : Int) + 1) = ((wh + 1 : Nat) : Int) from by omega, cutV_drop] at s3
        walk_at "gs"
        refine g_mkT (by simp [vI]; omega) fun r H4 nr k4 e4 => ?_
        refine k r H4 (by walk_at "k") ?_
        rw [← fin _ (if_neg c), List.getD_eq_getElem?_getD, hy]
        exact .at_ e4
  | alike a' b' f g =>
    obtain ⟨t, pf, pg, fs, gs_, rfl, ht, hf, tf, hg, tg⟩ := td_alike hv
    obtain ⟨o1, o2, o3, o4⟩ := ho
    have hn : 0 < n := hd
    have hx := List.getElem?_eq_getElem (show a' < z.length by omega)
    have hy := List.getElem?_eq_getElem (show b' < z.length by omega)
    have hst : stZ s z (.alike a' b' f g) = plsZ s z (if z[a'] = z[b'] then f else g) := by
      show plsZ s z (if z.getD a' 0 = z.getD b' 0 then f else g) = _
      rw [List.getD_eq_getElem?_getD, List.getD_eq_getElem?_getD, hx, hy]
      rfl
    have inner : ∀ l : List Pl, (∀ p ∈ l, p.ok s.length) → StepsOk s.length (l.map .pl) ∧ ∀ st ∈ l.map Stp.pl, st.dep < n := fun l hl => by
      refine ⟨fun st hs => ?_, fun st hs => ?_⟩
      · obtain ⟨p, hp, rfl⟩ := List.mem_map.mp hs
        exact hl p hp
      · obtain ⟨p, hp, rfl⟩ := List.mem_map.mp hs
        exact hn
    rw [hst] at k
    walk_at "gs"
    refine g_ixT (by walk_at "h") (atI_nat (vI_get hx)) ?_
    walk_at "gs"
    refine g_ixT (by walk_at "h") (atI_nat (vI_get hy)) ?_
    walk_at "gs"
    refine g_both (fun c => ?_) (fun c => ?_)
    · walk_at "gs"
      rw [if_pos c] at k
      exact ap_ranB (l := f.map .pl) hzB hs hl h1 hf (by rw [pls_dat]; exact tf) (inner f o3).1 (inner f o3).2 hn (by rw [runZ_pls]; exact k)
    · walk_at "gs"
      rw [if_neg c] at k
      exact ap_ranB (l := g.map .pl) hzB hs hl h1 hg (by rw [pls_dat]; exact tg) (inner g o4).1 (inner g o4).2 hn (by rw [runZ_pls]; exact k)
theorem ok_ran {n lv : Nat} (F : Fun K "ran" "ran" s_ran f fd) (c_stepped : Cal CX0 P w K mg base lv "stepped" (spStepped K n)) : FnOk P w K mg base CX0 (lv + 1) f fd ["showing", "sizes", "steps"] (spRan K (n + 1)) := by
  refine F.ok sc_ran (fun vs H Q E h => ?_) (fun cdv A outer s H vs Q E hr h => ?_)
  · obtain ⟨_, _, _, _, _, _, _, _, rfl, _⟩ := h
    rfl
  obtain ⟨τ, a, b, t, z, s, xs, l, rfl, hz, hs, hl, h1, ht, hT, ho, hd, hn, k⟩ := h
  refine ⟨_, (pss_cons (ps_for PassesOwn.never rfl (pi_tupK (K := K) (pv 2)) (pg_name (i := 3) sc_ran.nd rfl (by first | exact Or.inl rfl | exact Or.inr rfl)) (pss_one (ps_set (i := 0) sc_ran.nd rfl (by first | exact Or.inl rfl | exact Or.inr rfl) (pe_c c_stepped hr (by first | decide | omega) (by rfl) (pa_cons (pv 0) (pa_cons (pv 1) (pa_cons (pv 3) pa_nil)))))))
      (pss_one (ps_ret (pv 0)))), ?_⟩
  try dsimp only [nox_K]
  walk_at "gs"
  have hlen := hT.length
  rw [List.length_map] at hlen
  refine g_loopT (xs := xs) (fun i σ' H' => ∃ (a' : Addr) (y3 : Option V), σ' = [some (.ref a'), some (.ref b), some (.ref t), y3] ∧ SqB K τ H' a' (vI (runZ s z (l.take i))) ∧ Kp [] H H') ⟨a, none, rfl, hz, Kp.refl H⟩ (fun i σ' H' _ ⟨_, _, _, _, k'⟩ => k'.sqT ht) ?_ ?_
  · rintro i x σ' H' hx ⟨a', y3, rfl, hz', k'⟩
    have hi : i < l.length := by
      have := (List.getElem?_eq_some_iff.mp hx).1
      omega
    obtain ⟨x', hx', tx⟩ := (k'.tdA hT).get (i := i) (d := l[i].dat) (by simp [hi])
    rw [hx] at hx'
    cases hx'
    have hm := List.getElem_mem hi
    walk_at "gs"
    refine ap_steppedB hz' (by walk_at "h") (by rw [runZ_len]; exact hl) h1 tx (ho _ hm) (Nat.le_of_lt_succ (hd _ hm)) fun p H2 k2 hp => ?_
    walk_at "gs"
    refine ⟨p, _, rfl, ?_, by walk_at "k"⟩
    have er : runZ s z (l.take (i + 1)) = stZ s (runZ s z (l.take i)) l[i] := by
      rw [List.take_add_one, List.getElem?_eq_getElem hi]
      exact List.foldl_append ..
    rw [er]
    exact hp
  · rintro σ' H' ⟨a', y3, rfl, hz', k'⟩
    walk_at "gs"
    rw [hlen, List.take_length] at hz'
    exact k a' H' k' hz'
end
abbrev s_all_plain : Stmt := topS 19
abbrev n_all_plain : List Str := ["steps", "found", "step"]
theorem sc_all_plain : FnScope n_all_plain ["steps"] (defScope s_all_plain) := ⟨rfl, rfl, rfl, by decide +kernel, rfl, by decide +kernel, by decide +kernel⟩
abbrev s_Script_init : Stmt := inClass (topS 20) 0
abbrev n_Script_init : List Str := ["self", "wheels", "steps", "index", "step"]
theorem sc_Script_init : FnScope n_Script_init ["self", "wheels", "steps"] (defScope s_Script_init) := ⟨rfl, rfl, rfl, by decide +kernel, rfl, by decide +kernel, by decide +kernel⟩
abbrev s_first_of : Stmt := topS 28
abbrev n_first_of : List Str := ["sizes"]
theorem sc_first_of : FnScope n_first_of ["sizes"] (defScope s_first_of) := ⟨rfl, rfl, rfl, by decide +kernel, rfl, by decide +kernel, by decide +kernel⟩
section
variable {P : Program} {w : World} {K : PySem.W.Frag} {mg : Str → Option Value} {base : Heap} {f : Addr} {fd : FuncData}
theorem ok_all_plain (F : Fun K "all_plain" "all_plain" s_all_plain f fd) : FnOk P w K mg base CX0 1 f fd ["steps"] (spAllPlain K) := by
  refine F.ok sc_all_plain (fun vs H Q E h => ?_) (fun cdv A outer s H vs Q E hr h => ?_)
  · obtain ⟨_, _, _, rfl, _⟩ := h
    rfl
  obtain ⟨a, xs, l, rfl, hS, hT, hc, k⟩ := h
  refine ⟨_, (pss_cons (ps_set (i := 1) sc_all_plain.nd rfl (by first | exact Or.inl rfl | exact Or.inr rfl) (pe_lst pa_nil))
      (pss_cons (ps_for PassesOwn.never rfl (pi_tupK (K := K) (pv 0)) (pg_name (i := 2) sc_all_plain.nd rfl (by first | exact Or.inl rfl | exact Or.inr rfl)) (pss_cons (ps_expr (pe_bm PySem.F.plainAttrs_list PySem.F.slot_list_append PySem.F.type_list_append mt_append (pv 1) (pa_cons (pv 2) pa_nil)))
      (pss_one (ps_if (pt_cmpR op_eq (pe_ix (ix_tupK (K := K)) (pv 2) pe_int (fun _ _ => rfl)) pe_str (nomark _)) (pss_one (ps_expr (pe_bm PySem.F.plainAttrs_list PySem.F.slot_list_extend PySem.F.type_list_extend mt_extend (pv 1) (pa_cons (pe_lst (pa_starK (K := K) (pe_ix (ix_tupK (K := K)) (pv 2) pe_int (fun _ _ => rfl)) (pa_starK (K := K) (pe_ix (ix_tupK (K := K)) (pv 2) pe_int (fun _ _ => rfl)) pa_nil))) pa_nil)))) pss_nil))))
      (pss_one (ps_ret (pv 1))))), ?_⟩
  try dsimp only [nox_K]
  walk_at "gs"
  intro p H1 np k1 e1
  walk_at "gs"
  have hlen := hT.length
  rw [List.length_map] at hlen
  refine g_loopT (xs := xs) (fun i σ' H' => ∃ (ws : List V) (y2 : Option V), σ' = [some (.ref a), some (.ref p), y2] ∧ H' p = some (.lst ws) ∧ TdA K H' ws ((flat (l.take i)).map Stp.dat) ∧ Kp [] H H') ⟨[], none, rfl, e1, .nil, by walk_at "k"⟩ (fun i σ' H' _ ⟨_, _, _, _, _, k'⟩ => k'.sqT hS) ?_ ?_
  · rintro i x σ' H' hx ⟨ws, y2, rfl, eL, tL, k'⟩
    have hi : i < l.length := by
      have := (List.getElem?_eq_some_iff.mp hx).1
      omega
    obtain ⟨x', hx', tx⟩ := (k'.tdA hT).get (i := i) (d := l[i].dat) (by simp [hi])
    rw [hx] at hx'
    cases hx'
    have hfl : (flat (l.take i)).length ≤ 1000 := by
      rw [flat_len]
      have e := cnts_app (l.take i) (l.drop i)
      rw [List.take_append_drop] at e
      omega
    have hwl := tL.length
    rw [List.length_map] at hwl
    have et : flat (l.take (i + 1)) = flat (l.take i) ++ (l[i] :: l[i].inner) := by
      rw [List.take_add_one, List.getElem?_eq_getElem hi, flat_app]
      simp [flat]
    have hcn : l[i].cnt ≤ 1000 := by
      have e := cnts_app (l.take (i + 1)) (l.drop (i + 1))
      rw [List.take_append_drop, List.take_add_one, List.getElem?_eq_getElem hi, cnts_app] at e
      simp [cnts] at e
      simp [cnts] at hc
      omega
    rw [et]
    generalize l[i] = st at tx hcn ⊢
    walk_at "gs"
    refine g_append (by walk_at "h") (by omega) fun H2 k2 e2 => ?_
    have t2 : TdA K H2 (ws ++ [x]) ((flat (l.take i) ++ [st]).map Stp.dat) := by
      rw [List.map_append]
      exact TdA.app (k2.tdA tL) (.cons (k2.td tx) .nil)
    walk_at "gs"
    cases st with
    | pl p' =>
      cases p' with
      | turn wh b kd =>
        obtain ⟨t, rfl, ht⟩ := td_turn tx
        walk_at "gs"
        exact ⟨_, _, rfl, e2, t2, by walk_at "k"⟩
      | set wh b =>
        obtain ⟨t, rfl, ht⟩ := td_set tx
        walk_at "gs"
        exact ⟨_, _, rfl, e2, t2, by walk_at "k"⟩
    | alike a' b' f' g' =>
      obtain ⟨t, pf, pg, fs, gs_, rfl, ht, hf, tf, hg, tg⟩ := td_alike tx
      have l1 := tf.length
      have l2 := tg.length
      rw [List.length_map] at l1 l2
      simp only [Stp.cnt] at hcn
      walk_at "gs"
      refine g_mkL (by simp; omega) fun q H3 nq k3 e3 => ?_
      walk_at "gs"
      refine g_extend (xs := ws ++ [_]) (ys := fs ++ (gs_ ++ [])) (by walk_at "h") e3 (by simp; omega) fun H4 k4 e4 => ?_
      walk_at "gs"
      refine ⟨_, _, rfl, e4, ?_, by walk_at "k"⟩
      have e5 : (flat (l.take i) ++ (Stp.alike a' b' f' g' :: (Stp.alike a' b' f' g').inner)).map Stp.dat = (flat (l.take i) ++ [Stp.alike a' b' f' g']).map Stp.dat ++ (f'.map Pl.dat ++ g'.map Pl.dat) := by
        simp [Stp.inner, Stp.dat, Function.comp_def]
      rw [e5, List.append_nil]
      exact TdA.app (by walk_at "h") (TdA.app (by walk_at "h") (by walk_at "h"))
  · rintro σ' H' ⟨ws, y2, rfl, eL, tL, k'⟩
    walk_at "gs"
    rw [hlen, List.take_length] at tL
    exact k p ws H' np k' eL tL
theorem ok_init {C : Addr} (F : Fun K "__init__" "Script.__init__" s_Script_init f fd) (N : Nm mg) (T : ScT K C) (c_is_integer : Cal CX0 P w K mg base 1 "is_integer" (spIsInt K)) (c_is_step : Cal CX0 P w K mg base 4 "is_step" (spIsStep K)) (c_all_plain : Cal CX0 P w K mg base 1 "all_plain" (spAllPlain K))
    (g_MOST_WHEELS : Gc mg "MOST_WHEELS" (.int 3)) (g_MOST_STEPS : Gc mg "MOST_STEPS" (.int 5)) : FnOk P w K mg base CX0 5 f fd ["self", "wheels", "steps"] (spInit K C) := by
  have m_isinstance := N.isinstance
  have m_tuple := N.tuple
  have m_len := N.len
  have m_enumerate := N.enumerate
  refine F.ok sc_Script_init (fun vs H Q E h => ?_) (fun cdv A outer s H vs Q E hr h => ?_)
  · obtain ⟨_, _, _, _, _, rfl, _⟩ := h
    rfl
  obtain ⟨p, dx, n, v, l, rfl, hp, hv, ho, hc, h1, h3, k⟩ := h
  refine ⟨_, (pss_cons (ps_if (pt_not (pt_val (pe_c c_is_integer hr (by first | decide | omega) (by rfl) (pa_cons (pv 1) (pa_cons pe_int (pa_cons (pe_g (by rfl) g_MOST_WHEELS) pa_nil)))))) (pss_one ps_never) pss_nil)
      (pss_cons (ps_if (pt_not (pt_val (pe_callB (w_isiK (K := K)) (by rfl) m_isinstance (by decide +kernel) (pa_cons (pv 2) (pa_cons (pe_bltn (v := V.ty "tuple") (by rfl) m_tuple (by decide +kernel) rfl) pa_nil))))) (pss_one ps_never) pss_nil)
      (pss_cons (ps_for PassesOwn.never rfl (pi_enumT (by rfl) m_enumerate (pa_cons (pv 2) pa_nil)) (pg_tupK (K := K) (n := 2) (by rfl) (pgs_cons (pg_name (i := 3) sc_Script_init.nd rfl (by first | exact Or.inl rfl | exact Or.inr rfl)) (pgs_cons (pg_name (i := 4) sc_Script_init.nd rfl (by first | exact Or.inl rfl | exact Or.inr rfl)) pgs_nil))) (pss_one (ps_if (pt_not (pt_val (pe_c c_is_step hr (by first | decide | omega) (by rfl) (pa_cons (pv 4) (pa_cons (pv 1) pa_nil))))) (pss_one ps_never) pss_nil)))
      (pss_cons (ps_if (pt_cmpR op_gt (pe_callB (w_lenK (K := K)) (by rfl) m_len (by decide +kernel) (pa_cons (pe_c c_all_plain hr (by first | decide | omega) (by rfl) (pa_cons (pv 2) pa_nil)) pa_nil)) (pe_g (by rfl) g_MOST_STEPS) (nomark _)) (pss_one ps_never) pss_nil)
      (pss_cons (ps_fld (pv 0) (pv 1) rfl)
      (pss_one (ps_fld (pv 0) (pv 2) rfl))))))), ?_⟩
  try dsimp only [nox_K]
  walk_at "gs"
  intro H1 k1
  walk_at "gs"
  have e1 : intIn 1 3 (.int n) = true := by simp [intIn]; omega
  rw [e1]
  walk_at "gs"
  obtain ⟨t, xs, rfl, ht, tt⟩ := hv.inv
  refine g_isi (t := "tuple") (b := true) (dp_ty (k1.dp hv.dp)) (by decide +kernel) ?_
  walk_at "gs"
  have hlen := tt.length
  rw [List.length_map] at hlen
  refine g_loopE (xs := xs) (fun i σ' H' => ∃ (y3 y4 : Option V), σ' = [some (.ref p), some (.int n), some (.ref t), y3, y4] ∧ Kp [] H H') ⟨none, none, rfl, k1⟩ (fun i σ' H' _ ⟨_, _, _, k'⟩ => k'.sqT ht) ?_ ?_
  · rintro i x σ' H' T H2 hx ⟨y3, y4, rfl, k'⟩ nT k2 e2
    have hi : i < l.length := by
      have := (List.getElem?_eq_some_iff.mp hx).1
      omega
    obtain ⟨x', hx', tx⟩ := (k'.tdA tt).get (i := i) (d := l[i].dat) (by simp [hi])
    rw [hx] at hx'
    cases hx'
    have hm := List.getElem_mem hi
    have hok := ho _ hm
    have hcn : l[i].cnt ≤ 1000 := by
      have e := cnts_app (l.take (i + 1)) (l.drop (i + 1))
      rw [List.take_append_drop, List.take_add_one, List.getElem?_eq_getElem hi, cnts_app] at e
      simp [cnts] at e
      simp [cnts] at hc
      omega
    have sh := (lay_st l[i]).sh (by decide)
    have sz := sz_st hcn
    walk_at "gs"
    intro H3 k3
    rw [stepD_ok hok]
    walk_at "gs"
    exact ⟨_, _, rfl, by walk_at "k"⟩
  · rintro σ' H' ⟨y3, y4, rfl, k'⟩
    walk_at "gs"
    refine ap_allPlain (k'.sqT ht) (k'.tdA tt) (by omega) fun q ws H2 nq k2 e2 t2 => ?_
    walk_at "gs"
    have hw := t2.length
    rw [List.length_map, flat_len] at hw
    refine g_both (fun c => absurd c (by omega)) (fun c => ?_)
    walk_at "gs"
    refine g_xSF (by walk_at "h") T.cl T.nM (by show 0 < 1000; decide) fun H3 k3 e3 => ?_
    walk_at "gs"
    refine g_xSF (by walk_at "h") T.cl T.nR (putF_len1 _ _) fun H4 k4 e4 => ?_
    have kk : Kp [] H H2 := by walk_at "k"
    have kk4 : Kp [p] H H4 := by walk_at "k"
    exact k H4 kk4 ⟨⟨dx, .ref t, e4, kk4.td hv⟩, ho, hc, h1, h3⟩
theorem ok_first_of (F : Fun K "first_of" "first_of" s_first_of f fd) (N : Nm mg) : FnOk P w K mg base CX0 1 f fd ["sizes"] (spFirst K) := by
  have m_len := N.len
  refine F.ok sc_first_of (fun vs H Q E h => ?_) (fun cdv A outer s H vs Q E hr h => ?_)
  · obtain ⟨_, _, rfl, _⟩ := h
    rfl
  obtain ⟨b, s, rfl, hs, h1, h2, k⟩ := h
  refine ⟨_, (pss_one (ps_ret (pe_op (op_repAK (K := K)) (pe_tup (pa_cons pe_int pa_nil)) (pe_callB (w_lenK (K := K)) (by rfl) m_len (by decide +kernel) (pa_cons (pv 0) pa_nil))))), ?_⟩
  try dsimp only [nox_K]
  walk_at "gs"
  intro z H1 nz k1 e1
  walk_at "gs"
  refine g_repB e1 (by simp) (by rw [vI_length]; omega) (by rw [vI_length]; omega) (by decide) fun p H2 k2 hp => ?_
  rw [rep_one, vI_length] at hp
  refine k p H2 (by walk_at "k") ?_
  unfold vI zeros
  rw [List.map_replicate]
  exact hp
end
abbrev s_are_sizes : Stmt := topS 29
abbrev n_are_sizes : List Str := ["thing", "wheels", "size"]
theorem sc_are_sizes : FnScope n_are_sizes ["thing", "wheels"] (defScope s_are_sizes) := ⟨rfl, rfl, rfl, by decide +kernel, rfl, by decide +kernel, by decide +kernel⟩
section
variable {P : Program} {w : World} {K : PySem.W.Frag} {mg : Str → Option Value} {base : Heap} {f : Addr} {fd : FuncData}
theorem ok_are_sizes (F : Fun K "are_sizes" "are_sizes" s_are_sizes f fd) (N : Nm mg) (c_is_integer : Cal CX0 P w K mg base 1 "is_integer" (spIsInt K)) (g_LEAST_SIZE : Gc mg "LEAST_SIZE" (.int 2)) (g_MOST_SIZE : Gc mg "MOST_SIZE" (.int (10 ^ 30))) : FnOk P w K mg base CX0 2 f fd ["thing", "wheels"] (spAreSizes K) := by
  have m_isinstance := N.isinstance
  have m_tuple := N.tuple
  have m_len := N.len
  have m_all := N.all
  refine F.ok sc_are_sizes (fun vs H Q E h => ?_) (fun cdv A outer s H vs Q E hr h => ?_)
  · obtain ⟨_, _, _, rfl, _⟩ := h
    rfl
  obtain ⟨v, d, n, rfl, hD, hsz, k⟩ := h
  refine ⟨_, (pss_cons (ps_if (PW.pt (pw_or (pt_not (pt_val (pe_callB (w_isiK (K := K)) (by rfl) m_isinstance (by decide +kernel) (pa_cons (pv 0) (pa_cons (pe_bltn (v := V.ty "tuple") (by rfl) m_tuple (by decide +kernel) rfl) pa_nil))))) (pw_or1 (pt_cmpR op_ne (pe_callB (w_lenK (K := K)) (by rfl) m_len (by decide +kernel) (pa_cons (pv 0) pa_nil)) (pv 1) (nomark _))))) (pss_one (ps_ret pe_bl)) pss_nil)
      (pss_one (ps_ret (pe_callB (cr_allK (K := K) (by rfl)) (by rfl) m_all (by decide +kernel) (pa_cons (pe_lc (own := [("size", 2)]) (tt := tYes) (by rfl) sc_are_sizes.nd (pi_tupK (K := K) (pv 0)) (blkOk_by (own := [("size", 2)]) (N := n_are_sizes) (sc := defScope s_are_sizes) (by decide +kernel)) (fun _ _ _ _ _ => (pg_name (i := 2) sc_are_sizes.nd rfl (by first | exact Or.inl rfl | exact Or.inr rfl))) (fun _ _ _ _ _ => pts_nil) (fun _ _ _ _ _ => (pe_c c_is_integer hr (by first | decide | omega) (by rfl) (pa_cons (pv 2) (pa_cons (pe_g (by rfl) g_LEAST_SIZE) (pa_cons (pe_g (by rfl) g_MOST_SIZE) pa_nil)))))) pa_nil))))), ?_⟩
  try dsimp only [nox_K]
  walk_at "gs"
  have fin : ∀ {b : Bool} {H' : Hp}, Kp [] H H' → sizesD n d = b → Q (.bl b) H' := fun k' e => e ▸ k _ k'
  by_cases htup : tyD d = "tuple"
  · cases d with
    | tuple ds =>
      refine g_isiD true hD (by show kitB "tuple" "tuple" = _; decide +kernel) ?_
      obtain @⟨⟩ | @⟨⟩ | @⟨⟩ | @⟨⟩ | @⟨⟩ | @⟨a, xs, _, hS, hA⟩ := hD
      have hl2 := dpA_len hA
      walk_at "gs"
      refine g_bothN (fun c => ?_) (fun c => ?_)
      · walk_at "gs"
        refine fin (Kp.refl _) ?_
        have : ¬ ds.length = n := by omega
        simp [sizesD, this]
      walk_at "gs"
      refine g_compT (xs := xs) (fun D i acc H3 => Kp [] H H3 ∧ acc = ((ds.take i).map (intIn 2 (10 ^ 30))).map V.bl) (fun D H1 nD k1 => ⟨k1, rfl⟩) (fun D i acc H' _ ⟨k1, _⟩ => k1.sqT hS) ?_ ?_
      · rintro D2 i x acc H3 nD2 hx eD2 ⟨k3, rfl⟩
        obtain ⟨e, he, hx'⟩ := dp_item hA hx
        have hxe := k3.dp hx'
        have hlen : ds.length ≤ 1000 := hsz _ rfl
        have hz : (((ds.take i).map (intIn 2 (10 ^ 30))).map V.bl).length ≤ 1000000 := by
          simp
          omega
        have et := take_next (g := intIn 2 (10 ^ 30)) he
        walk_at "gs"
        intro H4 k4
        refine g_xEl (by walk_at "h") hz fun H5 k5 e5 => ⟨by walk_at "k", ?_⟩
        rw [et, List.map_append]
        rfl
      · rintro D2 acc H3 nD2 eD2 ⟨k3, rfl⟩
        rw [hl2, List.take_length] at eD2
        walk_at "gs"
        refine g_all (SqL.of eD2) ?_
        refine fin (by walk_at "k") ?_
        have : ds.length = n := by omega
        simp only [sizesD, this, decide_true, Bool.true_and, List.all_map]
        rfl
    | _ => exact (not_tup htup nofun).elim
  · refine g_isiD false hD (kit_no htup) ?_
    walk_at "gs"
    refine fin (Kp.refl _) ?_
    cases d with
    | tuple _ => exact absurd rfl htup
    | _ => rfl
end
abbrev s_law_alike : Stmt := topS 35
abbrev n_law_alike : List Str := ["_law_found", "_law_due", "_law_k"]
theorem sc_law_alike : FnScope n_law_alike ["_law_found", "_law_due"] (defScope s_law_alike) := ⟨rfl, rfl, rfl, by decide +kernel, rfl, by decide +kernel, by decide +kernel⟩
section
variable {P : Program} {w : World} {K : PySem.W.Frag} {mg : Str → Option Value} {base : Heap} {f : Addr} {fd : FuncData}
theorem ok_alike {n : Nat} (F : Fun K "_law_alike" "_law_alike" s_law_alike f fd) (N : Nm mg) (c_law_alike : Cal CX0 P w K mg base n "_law_alike" (spAlike K n)) : FnOk P w K mg base CX0 (n + 1) f fd ["_law_found", "_law_due"] (spAlike K (n + 1)) := by
  have m_len := N.len
  have m_isinstance := N.isinstance
  have m_dict := N.dict
  have m_tuple := N.tuple
  have m_list := N.list
  have m_str := N.str
  have m_int := N.int
  have m_bool := N.bool
  have m_range := N.range
  refine F.ok sc_law_alike (fun vs H Q E h => ?_) (fun cdv A outer s H vs Q E hr h => ?_)
  · obtain ⟨_, _, _, rfl, _⟩ := h
    rfl
  obtain ⟨x, y, d, rfl, hx, hy, hs, hd, hw, k⟩ := h
  refine ⟨_, (pss_cons (ps_if (pt_val (pe_callB (w_isiK (K := K)) (by rfl) m_isinstance (by decide +kernel) (pa_cons (pv 1) (pa_cons (pe_bltn (v := V.ty "dict") (by rfl) m_dict (by decide +kernel) rfl) pa_nil)))) (pss_one (ps_ret (pe_and (pe_callB (w_isiK (K := K)) (by rfl) m_isinstance (by decide +kernel) (pa_cons (pv 0) (pa_cons (pe_bltn (v := V.ty "dict") (by rfl) m_dict (by decide +kernel) rfl) pa_nil))) (pe_and (pe_c c_law_alike hr (by first | decide | omega) (by rfl) (pa_cons (pe_callTy (w_listK (K := K)) (by rfl) m_list (by decide +kernel) (pa_cons (pv 0) pa_nil)) (pa_cons (pe_callTy (w_listK (K := K)) (by rfl) m_list (by decide +kernel) (pa_cons (pv 1) pa_nil)) pa_nil))) (pe_one (pe_cmpR (op_eqDK (K := K) hr) (pv 0) (pv 1) (nomark _))))))) pss_nil)
      (pss_cons (ps_if (pt_val (pe_callB (w_isiTK (K := K)) (by rfl) m_isinstance (by decide +kernel) (pa_cons (pv 1) (pa_cons (pe_tup (pa_cons (pe_bltn (v := V.ty "tuple") (by rfl) m_tuple (by decide +kernel) rfl) (pa_cons (pe_bltn (v := V.ty "list") (by rfl) m_list (by decide +kernel) rfl) pa_nil))) pa_nil)))) (pss_cons (ps_if (PW.pt (pw_or (pt_not (pt_val (pe_callB (w_isiTK (K := K)) (by rfl) m_isinstance (by decide +kernel) (pa_cons (pv 0) (pa_cons (pe_tup (pa_cons (pe_bltn (v := V.ty "tuple") (by rfl) m_tuple (by decide +kernel) rfl) (pa_cons (pe_bltn (v := V.ty "list") (by rfl) m_list (by decide +kernel) rfl) pa_nil))) pa_nil))))) (pw_or1 (pt_cmpR op_ne (pe_callB (w_isiK (K := K)) (by rfl) m_isinstance (by decide +kernel) (pa_cons (pv 0) (pa_cons (pe_bltn (v := V.ty "list") (by rfl) m_list (by decide +kernel) rfl) pa_nil))) (pe_callB (w_isiK (K := K)) (by rfl) m_isinstance (by decide +kernel) (pa_cons (pv 1) (pa_cons (pe_bltn (v := V.ty "list") (by rfl) m_list (by decide +kernel) rfl) pa_nil))) (nomark _))))) (pss_one (ps_ret pe_bl)) pss_nil)
      (pss_cons (ps_if (pt_cmpR op_ne (pe_callB (w_lenK (K := K)) (by rfl) m_len (by decide +kernel) (pa_cons (pv 0) pa_nil)) (pe_callB (w_lenK (K := K)) (by rfl) m_len (by decide +kernel) (pa_cons (pv 1) pa_nil)) (nomark _)) (pss_one (ps_ret pe_bl)) pss_nil)
      (pss_one (ps_ret (pe_cmpR (op_eqDK (K := K) hr) (pe_lc (own := [("_law_k", 2)]) (by rfl) sc_law_alike.nd (pi_range1 (by rfl) m_range (pa_cons (pe_callB (w_lenK (K := K)) (by rfl) m_len (by decide +kernel) (pa_cons (pv 1) pa_nil)) pa_nil)) (blkOk_by (own := [("_law_k", 2)]) (N := n_law_alike) (sc := defScope s_law_alike) (by decide +kernel)) (fun _ _ _ _ _ => (pg_name (i := 2) sc_law_alike.nd rfl (by first | exact Or.inl rfl | exact Or.inr rfl))) (fun _ _ _ _ _ => (pts_one (pt_not (pt_val (pe_c c_law_alike hr (by first | decide | omega) (by rfl) (pa_cons (pe_ix (ix_seqK (K := K)) (pv 0) (pv 2) (fun _ _ => rfl)) (pa_cons (pe_ix (ix_seqK (K := K)) (pv 1) (pv 2) (fun _ _ => rfl)) pa_nil))))))) (fun _ _ _ _ _ => (pv 2))) (pe_lst pa_nil) (nomark _)))))) pss_nil)
      (pss_cons (ps_if (PW.pt (pw_or (pt_cmpR w_isN (pv 1) pe_non (nomark _)) (pw_or1 (pt_val (pe_callB (w_isiK (K := K)) (by rfl) m_isinstance (by decide +kernel) (pa_cons (pv 1) (pa_cons (pe_bltn (v := V.ty "str") (by rfl) m_str (by decide +kernel) rfl) pa_nil))))))) (pss_one (ps_ret (pe_and (pe_cmpR (op_eqDK (K := K) hr) (pv 0) (pv 1) (nomark _)) (pe_one (pe_cmpR op_eq (pe_callB (w_isiK (K := K)) (by rfl) m_isinstance (by decide +kernel) (pa_cons (pv 0) (pa_cons (pe_bltn (v := V.ty "str") (by rfl) m_str (by decide +kernel) rfl) pa_nil))) (pe_callB (w_isiK (K := K)) (by rfl) m_isinstance (by decide +kernel) (pa_cons (pv 1) (pa_cons (pe_bltn (v := V.ty "str") (by rfl) m_str (by decide +kernel) rfl) pa_nil))) (nomark _)))))) pss_nil)
      (pss_one (ps_ret (pe_and (pe_callB (w_isiK (K := K)) (by rfl) m_isinstance (by decide +kernel) (pa_cons (pv 0) (pa_cons (pe_bltn (v := V.ty "int") (by rfl) m_int (by decide +kernel) rfl) pa_nil))) (pe_and (pe_cmpR op_eq (pe_callB (w_isiK (K := K)) (by rfl) m_isinstance (by decide +kernel) (pa_cons (pv 0) (pa_cons (pe_bltn (v := V.ty "bool") (by rfl) m_bool (by decide +kernel) rfl) pa_nil))) (pe_callB (w_isiK (K := K)) (by rfl) m_isinstance (by decide +kernel) (pa_cons (pv 1) (pa_cons (pe_bltn (v := V.ty "bool") (by rfl) m_bool (by decide +kernel) rfl) pa_nil))) (nomark _)) (pe_one (pe_cmpR (op_eqDK (K := K) hr) (pv 0) (pv 1) (nomark _)))))))))), ?_⟩
  try dsimp only [nox_K]
  have hself : PyData.eqv d d = true := SeqAt.eqv_refl d (SeqAt.canLay_of_shaped hs)
  walk_at "gs"
  cases d with
  | dict _ => cases hx
  | int i =>
    cases hx
    cases hy
    refine g_isiD (d := .int i) false (.int i) (by show kitB "int" "dict" = _; decide +kernel) ?_
    walk_at "gs"
    intro tp H1 ntp k1 e1
    walk_at "gs"
    refine g_isiTL (d := .int i) false e1 (.int i) rfl ?_
    walk_at "gs"
    refine g_isiD (d := .int i) false (.int i) (by show kitB "int" "str" = _; decide +kernel) ?_
    walk_at "gs"
    refine g_isiD (d := .int i) true (.int i) (by show kitB "int" "int" = _; decide +kernel) ?_
    walk_at "gs"
    refine g_isiD (d := .int i) false (.int i) (by show kitB "int" "bool" = _; decide +kernel) ?_
    walk_at "gs"
    refine g_isiD (d := .int i) false (.int i) (by show kitB "int" "bool" = _; decide +kernel) ?_
    walk_at "gs"
    refine g_rEqDp (d := .int i) (e := .int i) (.int i) (.int i) hs hs ?_
    rw [hself]
    exact k H1 k1
  | bool b =>
    cases hx
    cases hy
    refine g_isiD (d := .bool b) false (.bl b) (by show kitB "bool" "dict" = _; decide +kernel) ?_
    walk_at "gs"
    intro tp H1 ntp k1 e1
    walk_at "gs"
    refine g_isiTL (d := .bool b) false e1 (.bl b) rfl ?_
    walk_at "gs"
    refine g_isiD (d := .bool b) false (.bl b) (by show kitB "bool" "str" = _; decide +kernel) ?_
    walk_at "gs"
    refine g_isiD (d := .bool b) true (.bl b) (by show kitB "bool" "int" = _; decide +kernel) ?_
    walk_at "gs"
    refine g_isiD (d := .bool b) true (.bl b) (by show kitB "bool" "bool" = _; decide +kernel) ?_
    walk_at "gs"
    refine g_isiD (d := .bool b) true (.bl b) (by show kitB "bool" "bool" = _; decide +kernel) ?_
    walk_at "gs"
    refine g_rEqDp (d := .bool b) (e := .bool b) (.bl b) (.bl b) hs hs ?_
    rw [hself]
    exact k H1 k1
  | none =>
    cases hx
    cases hy
    refine g_isiD (d := .none) false .non (by show kitB "NoneType" "dict" = _; decide +kernel) ?_
    walk_at "gs"
    intro tp H1 ntp k1 e1
    walk_at "gs"
    refine g_isiTL (d := .none) false e1 .non rfl ?_
    walk_at "gs"
    refine g_rEqDp (d := .none) (e := .none) .non .non hs hs ?_
    rw [hself]
    walk_at "gs"
    refine g_isiD (d := .none) false .non (by show kitB "NoneType" "str" = _; decide +kernel) ?_
    walk_at "gs"
    refine g_isiD (d := .none) false .non (by show kitB "NoneType" "str" = _; decide +kernel) ?_
    walk_at "gs"
    exact k H1 k1
  | str x =>
    cases hx
    cases hy
    refine g_isiD (d := .str x) false (.str x) (by show kitB "str" "dict" = _; decide +kernel) ?_
    walk_at "gs"
    intro tp H1 ntp k1 e1
    walk_at "gs"
    refine g_isiTL (d := .str x) false e1 (.str x) rfl ?_
    walk_at "gs"
    refine g_isiD (d := .str x) true (.str x) (by show kitB "str" "str" = _; decide +kernel) ?_
    walk_at "gs"
    refine g_rEqDp (d := .str x) (e := .str x) (.str x) (.str x) hs hs ?_
    rw [hself]
    walk_at "gs"
    refine g_isiD (d := .str x) true (.str x) (by show kitB "str" "str" = _; decide +kernel) ?_
    walk_at "gs"
    refine g_isiD (d := .str x) true (.str x) (by show kitB "str" "str" = _; decide +kernel) ?_
    walk_at "gs"
    exact k H1 k1
  | list ds =>
    obtain ⟨px, xs, rfl, sx, tx⟩ : ∃ px xs, x = .ref px ∧ SqL K H px xs ∧ DpAll K H xs ds := by
      cases hx with
      | lst h1 h2 => exact ⟨_, _, rfl, h1, h2⟩
    obtain ⟨py, ys, rfl, sy, ty⟩ : ∃ py ys, y = .ref py ∧ SqL K H py ys ∧ DpAll K H ys ds := by
      cases hy with
      | lst h1 h2 => exact ⟨_, _, rfl, h1, h2⟩
    have lx := dpA_len tx
    have ly := dpA_len ty
    have hz : ds.length ≤ 1000000 := by
      have := weight_len ds
      simp only [PyData.weight] at hw
      omega
    refine g_isiD false hy (by show kitB "list" "dict" = _; decide +kernel) ?_
    walk_at "gs"
    intro tp H1 ntp k1 e1
    walk_at "gs"
    refine g_isiTL (d := .list ds) true e1 (Dp.mono k1 hy) rfl ?_
    walk_at "gs"
    intro tq H2 ntq k2 e2
    have k12 := Kp.step0 k1 k2
    walk_at "gs"
    refine g_isiTL (d := .list ds) true e2 (Dp.mono k12 hx) rfl ?_
    walk_at "gs"
    refine g_isiD true (Dp.mono k12 hx) (by show kitB "list" "list" = _; decide +kernel) ?_
    walk_at "gs"
    refine g_isiD true (Dp.mono k12 hy) (by show kitB "list" "list" = _; decide +kernel) ?_
    walk_at "gs"
    rw [lx, ly]
    refine g_else (by simp) ?_
    walk_at "gs"
    refine g_xRng1 (by omega) (by omega) ?_
    refine g_compR (G := fun D i acc H' => acc = [] ∧ Kp [] H2 H') (fun D H3 hD k3 => ⟨rfl, k3⟩) (fun D i acc H3 hD hi hacc ⟨z, k3⟩ => ?_) (fun D acc H3 hD hacc ⟨z, k3⟩ => ?_)
    · subst z
      rw [ly] at hi
      obtain ⟨u, hu, du⟩ := dpA_get (i := i) (d := ds[i]) tx (List.getElem?_eq_getElem hi)
      obtain ⟨v, hv, dv⟩ := dpA_get (i := i) (d := ds[i]) ty (List.getElem?_eq_getElem hi)
      have k13 := Kp.step0 k12 k3
      rw [Int.zero_add]
      walk_at "gs"
      refine g_ixSL (k13.sqL sx List.not_mem_nil) (atI_at rfl hu) ?_
      walk_at "gs"
      refine g_ixSL (k13.sqL sy List.not_mem_nil) (atI_at rfl hv) ?_
      walk_at "gs"
      refine ap_alike ds[i] (Dp.mono k13 du) (Dp.mono k13 dv) (shaped_memL hs _ (List.getElem_mem hi)) ?_ ?_ (fun H4 k4 => ?_)
      · have := depth_mem (List.getElem_mem hi)
        simp only [PyData.depth] at hd
        omega
      · have := weight_mem (List.getElem_mem hi)
        simp only [PyData.weight] at hw
        omega
      walk_at "gs"
      exact g_accP (k4.at_ hacc List.not_mem_nil) ⟨rfl, Kp.step0 k3 k4⟩
    · subst z
      have k13 := Kp.step0 k12 k3
      walk_at "gs"
      intro p H4 np k4 e4
      refine g_rEqDp (d := .list []) (e := .list []) (.lst (SqL.of (k4.at_ hacc List.not_mem_nil)) .nil) (.lst (SqL.of e4) .nil) (by decide +kernel) (by decide +kernel) ?_
      exact k H4 (Kp.step0 k13 k4)
  | tuple ds =>
    obtain ⟨px, xs, rfl, sx, tx⟩ : ∃ px xs, x = .ref px ∧ SqT K H px xs ∧ DpAll K H xs ds := by
      cases hx with
      | tup h1 h2 => exact ⟨_, _, rfl, h1, h2⟩
    obtain ⟨py, ys, rfl, sy, ty⟩ : ∃ py ys, y = .ref py ∧ SqT K H py ys ∧ DpAll K H ys ds := by
      cases hy with
      | tup h1 h2 => exact ⟨_, _, rfl, h1, h2⟩
    have lx := dpA_len tx
    have ly := dpA_len ty
    have hz : ds.length ≤ 1000000 := by
      have := weight_len ds
      simp only [PyData.weight] at hw
      omega
    refine g_isiD false hy (by show kitB "tuple" "dict" = _; decide +kernel) ?_
    walk_at "gs"
    intro tp H1 ntp k1 e1
    walk_at "gs"
    refine g_isiTL (d := .tuple ds) true e1 (Dp.mono k1 hy) rfl ?_
    walk_at "gs"
    intro tq H2 ntq k2 e2
    have k12 := Kp.step0 k1 k2
    walk_at "gs"
    refine g_isiTL (d := .tuple ds) true e2 (Dp.mono k12 hx) rfl ?_
    walk_at "gs"
    refine g_isiD false (Dp.mono k12 hx) (by show kitB "tuple" "list" = _; decide +kernel) ?_
    walk_at "gs"
    refine g_isiD false (Dp.mono k12 hy) (by show kitB "tuple" "list" = _; decide +kernel) ?_
    walk_at "gs"
    rw [lx, ly]
    refine g_else (by simp) ?_
    walk_at "gs"
    refine g_xRng1 (by omega) (by omega) ?_
    refine g_compR (G := fun D i acc H' => acc = [] ∧ Kp [] H2 H') (fun D H3 hD k3 => ⟨rfl, k3⟩) (fun D i acc H3 hD hi hacc ⟨z, k3⟩ => ?_) (fun D acc H3 hD hacc ⟨z, k3⟩ => ?_)
    · subst z
      rw [ly] at hi
      obtain ⟨u, hu, du⟩ := dpA_get (i := i) (d := ds[i]) tx (List.getElem?_eq_getElem hi)
      obtain ⟨v, hv, dv⟩ := dpA_get (i := i) (d := ds[i]) ty (List.getElem?_eq_getElem hi)
      have k13 := Kp.step0 k12 k3
      rw [Int.zero_add]
      walk_at "gs"
      refine g_ixST (k13.sqT sx) (atI_at rfl hu) ?_
      walk_at "gs"
      refine g_ixST (k13.sqT sy) (atI_at rfl hv) ?_
      walk_at "gs"
      refine ap_alike ds[i] (Dp.mono k13 du) (Dp.mono k13 dv) (shaped_mem hs _ (List.getElem_mem hi)) ?_ ?_ (fun H4 k4 => ?_)
      · have := depth_mem (List.getElem_mem hi)
        simp only [PyData.depth] at hd
        omega
      · have := weight_mem (List.getElem_mem hi)
        simp only [PyData.weight] at hw
        omega
      walk_at "gs"
      exact g_accP (k4.at_ hacc List.not_mem_nil) ⟨rfl, Kp.step0 k3 k4⟩
    · subst z
      have k13 := Kp.step0 k12 k3
      walk_at "gs"
      intro p H4 np k4 e4
      refine g_rEqDp (d := .list []) (e := .list []) (.lst (SqL.of (k4.at_ hacc List.not_mem_nil)) .nil) (.lst (SqL.of e4) .nil) (by decide +kernel) (by decide +kernel) ?_
      exact k H4 (Kp.step0 k13 k4)
end
abbrev s_Walk_go : Stmt := inClass (topS 31) 4
abbrev n_Walk_go : List Str := ["self", "step"]
theorem sc_Walk_go : FnScope n_Walk_go ["self", "step"] (defScope s_Walk_go) := ⟨rfl, rfl, rfl, by decide +kernel, rfl, by decide +kernel, by decide +kernel⟩
abbrev s_Walk_showing : Stmt := inClass (topS 31) 1
abbrev n_Walk_showing : List Str := ["self"]
theorem sc_Walk_showing : FnScope n_Walk_showing ["self"] (defScope s_Walk_showing) := ⟨rfl, rfl, rfl, by decide +kernel, rfl, by decide +kernel, by decide +kernel⟩
abbrev s_Walk_log : Stmt := inClass (topS 31) 2
abbrev n_Walk_log : List Str := ["self"]
theorem sc_Walk_log : FnScope n_Walk_log ["self"] (defScope s_Walk_log) := ⟨rfl, rfl, rfl, by decide +kernel, rfl, by decide +kernel, by decide +kernel⟩
abbrev s_Walk_len : Stmt := inClass (topS 31) 3
abbrev n_Walk_len : List Str := ["self"]
theorem sc_Walk_len : FnScope n_Walk_len ["self"] (defScope s_Walk_len) := ⟨rfl, rfl, rfl, by decide +kernel, rfl, by decide +kernel, by decide +kernel⟩
abbrev s_Walk_undo : Stmt := inClass (topS 31) 6
abbrev n_Walk_undo : List Str := ["self"]
theorem sc_Walk_undo : FnScope n_Walk_undo ["self"] (defScope s_Walk_undo) := ⟨rfl, rfl, rfl, by decide +kernel, rfl, by decide +kernel, by decide +kernel⟩
abbrev s_Walk_redo : Stmt := inClass (topS 31) 7
abbrev n_Walk_redo : List Str := ["self"]
theorem sc_Walk_redo : FnScope n_Walk_redo ["self"] (defScope s_Walk_redo) := ⟨rfl, rfl, rfl, by decide +kernel, rfl, by decide +kernel, by decide +kernel⟩
abbrev s_Walk_do : Stmt := inClass (topS 31) 5
abbrev n_Walk_do : List Str := ["self", "step"]
theorem sc_Walk_do : FnScope n_Walk_do ["self", "step"] (defScope s_Walk_do) := ⟨rfl, rfl, rfl, by decide +kernel, rfl, by decide +kernel, by decide +kernel⟩
section
variable {P : Program} {w : World} {K : PySem.W.Frag} {mg : Str → Option Value} {base : Heap} {f : Addr} {fd : FuncData}
theorem ok_wshowing {C : Addr} (F : Fun K "showing" "Walk.showing" s_Walk_showing f fd) (T : WkT K C) : FnOk P w K mg base CX0 1 f fd ["self"] (spWShowing K C) := by
  refine F.ok sc_Walk_showing (fun vs H Q E h => ?_) (fun cdv A outer s H vs Q E hr h => ?_)
  · obtain ⟨_, _, _, _, _, rfl, _⟩ := h
    rfl
  obtain ⟨a, ps, s, log, gone, rfl, wk, k⟩ := h
  refine ⟨_, (pss_one (ps_ret (pe_ix (ix_listK (K := K)) (pe_fldK (K := K) (pv 0) rfl) (pe_un un_neg pe_int) (fun _ _ => rfl)))), ?_⟩
  try dsimp only [nox_K]
  obtain ⟨dx, fs, pr, pd, pu, b, rs, ds, us, rfl, e, z, nm, l1, l2, l3, l4, sb, e1, e2, e3, t1, t2, t3, n1, n2, n3⟩ := wk.at_
  walk_at "gs"
  refine g_xFld e T.cl T.nR l2 ?_
  walk_at "gs"
  have hal : rs.length = log.length + 1 := by
    have := t1.length
    rw [List.length_map, traceZ_len] at this
    exact this
  obtain ⟨u, hu, du⟩ := t1.get (i := log.length) (d := dInts (shownZ s log)) (by rw [List.getElem?_map, traceZ_last]; rfl)
  refine g_ixL (xs := rs) (SqL.of e1) (v := u) ?_ ?_
  · rw [← hu]
    exact atI_end hal
  obtain ⟨p, xu, rfl, su, tu⟩ := du.inv
  obtain rfl := tu.vIInv
  exact k p H (Kp.refl _) su
theorem ok_wlog {C : Addr} (F : Fun K "log" "Walk.log" s_Walk_log f fd) (N : Nm mg) (T : WkT K C) : FnOk P w K mg base CX0 1 f fd ["self"] (spWLog K C) := by
  have m_list := N.list
  refine F.ok sc_Walk_log (fun vs H Q E h => ?_) (fun cdv A outer s H vs Q E hr h => ?_)
  · obtain ⟨_, _, _, _, _, rfl, _⟩ := h
    rfl
  obtain ⟨a, ps, s, log, gone, rfl, wk, hz, k⟩ := h
  refine ⟨_, (pss_one (ps_ret (pe_callTy (w_listK (K := K)) (by rfl) m_list (by decide +kernel) (pa_cons (pe_fldK (K := K) (pv 0) rfl) pa_nil)))), ?_⟩
  try dsimp only [nox_K]
  obtain ⟨dx, fs, pr, pd, pu, b, rs, ds, us, rfl, e, z, nm, l1, l2, l3, l4, sb, e1, e2, e3, t1, t2, t3, n1, n2, n3⟩ := wk.at_
  walk_at "gs"
  refine g_xFld e T.cl T.nS l3 ?_
  walk_at "gs"
  intro p H1 np k1 x1
  exact k p ds H1 np k1 x1 (k1.tdA t2)
theorem ok_wlen {C : Addr} (F : Fun K "__len__" "Walk.__len__" s_Walk_len f fd) (N : Nm mg) (T : WkT K C) : FnOk P w K mg base CX0 1 f fd ["self"] (spWLen K C) := by
  have m_len := N.len
  refine F.ok sc_Walk_len (fun vs H Q E h => ?_) (fun cdv A outer s H vs Q E hr h => ?_)
  · obtain ⟨_, _, _, _, _, rfl, _⟩ := h
    rfl
  obtain ⟨a, ps, s, log, gone, rfl, wk, k⟩ := h
  refine ⟨_, (pss_one (ps_ret (pe_callB (w_lenK (K := K)) (by rfl) m_len (by decide +kernel) (pa_cons (pe_fldK (K := K) (pv 0) rfl) pa_nil)))), ?_⟩
  try dsimp only [nox_K]
  obtain ⟨dx, fs, pr, pd, pu, b, rs, ds, us, rfl, e, z, nm, l1, l2, l3, l4, sb, e1, e2, e3, t1, t2, t3, n1, n2, n3⟩ := wk.at_
  walk_at "gs"
  refine g_xFld e T.cl T.nS l3 ?_
  walk_at "gs"
  have hal : ds.length = log.length := by
    have := t2.length
    rwa [List.length_map] at this
  rw [hal]
  exact k H (Kp.refl _)
theorem ok_wgo {C : Addr} (F : Fun K "go" "Walk.go" s_Walk_go f fd) (T : WkT K C) (c_stepped : Cal CX0 P w K mg base 4 "stepped" (spStepped K 1)) : FnOk P w K mg base CX0 5 f fd ["self", "step"] (spGo K C) := by
  refine F.ok sc_Walk_go (fun vs H Q E h => ?_) (fun cdv A outer s H vs Q E hr h => ?_)
  · obtain ⟨_, _, _, _, _, _, _, rfl, _⟩ := h
    rfl
  obtain ⟨a, ps, s, log, gone, v, st, rfl, wk, hv, ho, hz, k⟩ := h
  refine ⟨_, (pss_cons (ps_expr (pe_bm PySem.F.plainAttrs_list PySem.F.slot_list_append PySem.F.type_list_append mt_append (pe_fldK (K := K) (pv 0) rfl) (pa_cons (pe_c c_stepped hr (by first | decide | omega) (by rfl) (pa_cons (pe_ix (ix_listK (K := K)) (pe_fldK (K := K) (pv 0) rfl) (pe_un un_neg pe_int) (fun _ _ => rfl)) (pa_cons (pe_fldK (K := K) (pv 0) rfl) (pa_cons (pv 1) pa_nil)))) pa_nil)))
      (pss_one (ps_expr (pe_bm PySem.F.plainAttrs_list PySem.F.slot_list_append PySem.F.type_list_append mt_append (pe_fldK (K := K) (pv 0) rfl) (pa_cons (pv 1) pa_nil))))), ?_⟩
  try dsimp only [nox_K]
  obtain ⟨dx, fs, pr, pd, pu, b, rs, ds, us, rfl, e, z, nm, l1, l2, l3, l4, sb, e1, e2, e3, t1, t2, t3, n1, n2, n3⟩ := wk.at_
  have hal : rs.length = log.length + 1 := by
    have := t1.length
    rw [List.length_map, traceZ_len] at this
    exact this
  have hdl : ds.length = log.length := by
    have := t2.length
    rwa [List.length_map] at this
  have nar : a ≠ pr := ne_of e e1 fun z => by cases z
  have nad : a ≠ pd := ne_of e e2 fun z => by cases z
  walk_at "gs"
  refine g_xFld e T.cl T.nR l2 ?_
  walk_at "gs"
  refine g_xFld e T.cl T.nR l2 ?_
  walk_at "gs"
  obtain ⟨u, hu, du⟩ := t1.get (i := log.length) (d := dInts (shownZ s log)) (by rw [List.getElem?_map, traceZ_last]; rfl)
  refine g_ixL (xs := rs) (SqL.of e1) (v := u) (by rw [← hu]; exact atI_end hal) ?_
  obtain ⟨p, xu, rfl, su, tu⟩ := du.inv
  obtain rfl := tu.vIInv
  walk_at "gs"
  refine g_xFld e T.cl T.nW l1 ?_
  walk_at "gs"
  refine ap_stepped (z := shownZ s log) (s := s) (st := st) su sb (by rw [shownZ_len]) (by have := wk.n3; omega) hv ho (by cases st <;> simp [Stp.dep]) fun p2 H1 k1 s1 => ?_
  walk_at "gs"
  refine g_append (xs := rs) (k1.at_ e1 List.not_mem_nil) (by omega) fun H2 k2 x2 => ?_
  walk_at "gs"
  refine g_xFld (k2.at_ (k1.at_ e List.not_mem_nil) (by simpa using nar)) T.cl T.nS l3 ?_
  walk_at "gs"
  have y2 : H2 pd = some (.lst ds) := k2.at_ (k1.at_ e2 List.not_mem_nil) (by simpa using Ne.symm n1)
  refine g_append (xs := ds) y2 (by omega) fun H3 k3 x3 => ?_
  walk_at "gs"
  refine k H3 ?_ ⟨⟨dx, fs, pr, pd, pu, b, _, _, us, rfl, k3.at_ (k2.at_ (k1.at_ e List.not_mem_nil) (by simpa using nar)) (by simpa using nad), z, nm, l1, l2, l3, l4, k3.sqT (k2.sqT (k1.sqT sb)), k3.at_ x2 (by simpa using n1), x3, k3.at_ (k2.at_ (k1.at_ e3 List.not_mem_nil) (by simpa using Ne.symm n2)) (by simpa using Ne.symm n3), ?_, ?_, k3.tdA (k2.tdA (k1.tdA t3)), n1, n2, n3⟩, wk.so, ?_, wk.okg, wk.n1, wk.n3⟩
  · exact Kp.step1 (Kp.step1 (Kp.step0 (Kp.refl _) k1) k2 (.inl (by simp))) k3 (.inl (by simp))
  · rw [traceZ_snoc, shownZ_snoc, List.map_append]
    exact (k3.tdA (k2.tdA (k1.tdA t1))).app (.cons (k3.td (k2.td (Td.vI s1))) .nil)
  · rw [List.map_append]
    exact (k3.tdA (k2.tdA (k1.tdA t2))).app (.cons (k3.td (k2.td (k1.td hv))) .nil)
  · intro x hx
    rcases List.mem_append.mp hx with y | y
    · exact wk.ok x y
    · rw [List.mem_singleton.mp y]
      exact ho
theorem ok_wundo {C : Addr} (F : Fun K "undo" "Walk.undo" s_Walk_undo f fd) (T : WkT K C) : FnOk P w K mg base CX0 1 f fd ["self"] (spUndo K C) := by
  refine F.ok sc_Walk_undo (fun vs H Q E h => ?_) (fun cdv A outer s H vs Q E hr h => ?_)
  · obtain ⟨_, _, _, _, _, rfl, _⟩ := h
    rfl
  obtain ⟨a, ps, s, log, gone, rfl, wk, hz, hzg, k⟩ := h
  refine ⟨_, (pss_cons (ps_if (pt_cmpR (op_eqDK (K := K) hr) (pe_fldK (K := K) (pv 0) rfl) (pe_lst pa_nil) (nomark _)) (pss_one (ps_ret pe_bl)) pss_nil)
      (pss_cons (ps_expr (pe_bm PySem.F.plainAttrs_list PySem.F.slot_list_append PySem.F.type_list_append mt_append (pe_fldK (K := K) (pv 0) rfl) (pa_cons (pe_bm0 PySem.F.plainAttrs_list PySem.F.slot_list_pop PySem.F.type_list_pop mt_pop (pe_fldK (K := K) (pv 0) rfl)) pa_nil)))
      (pss_cons (ps_expr (pe_bm0 PySem.F.plainAttrs_list PySem.F.slot_list_pop PySem.F.type_list_pop mt_pop (pe_fldK (K := K) (pv 0) rfl)))
      (pss_one (ps_ret pe_bl))))), ?_⟩
  try dsimp only [nox_K]
  obtain ⟨dx, fs, pr, pd, pu, b, rs, ds, us, rfl, e, z, nm, l1, l2, l3, l4, sb, e1, e2, e3, t1, t2, t3, n1, n2, n3⟩ := wk.at_
  walk_at "gs"
  refine g_xFld e T.cl T.nS l3 ?_
  walk_at "gs"
  intro pn H1 npn k1 x1
  have hdl : ds.length = log.length := by
    have := t2.length
    rwa [List.length_map] at this
  have hul : us.length = gone.length := by
    have := t3.length
    rwa [List.length_map] at this
  have hrl : rs.length = log.length + 1 := by
    have := t1.length
    rw [List.length_map, traceZ_len] at this
    exact this
  refine g_rEqDp (d := .list (log.map Stp.dat)) (e := .list []) (.lst (SqL.of (k1.at_ e2 List.not_mem_nil)) (k1.tdA t2).dp) (.lst (SqL.of x1) .nil) (sh_list _) (by decide +kernel) ?_
  rw [eqv_nilL]
  have nar : a ≠ pr := ne_of e e1 fun z => by cases z
  have nad : a ≠ pd := ne_of e e2 fun z => by cases z
  have nau : a ≠ pu := ne_of e e3 fun z => by cases z
  by_cases hlog : log = []
  · subst hlog
    walk_at "gs"
    exact k H1 (Kp.step0 (Kp.refl _) k1) (by simpa using k1.wlk wk fun _ _ => List.not_mem_nil)
  · obtain ⟨l', st, rfl⟩ : ∃ l' st, log = l' ++ [st] := ⟨log.dropLast, log.getLast hlog, (List.dropLast_concat_getLast hlog).symm⟩
    have he : (l' ++ [st]).isEmpty = false := by simp
    rw [he]
    obtain ⟨v, hv, tv⟩ := t2.get (i := l'.length) (d := st.dat) (by simp)
    have hdl2 : ds.length - 1 = l'.length := by
      rw [hdl]
      simp
    have tds : TdA K H ds.dropLast (l'.map Stp.dat) := by
      have := t2.take l'.length
      rw [List.map_append, List.take_left' (by simp)] at this
      rwa [List.dropLast_eq_take, hdl2]
    have trs : TdA K H rs.dropLast ((traceZ s l').map dInts) := by
      have := t1.take (l'.length + 1)
      rw [traceZ_snoc, List.map_append, List.take_left' (by simp [traceZ_len])] at this
      rw [List.dropLast_eq_take, hrl]
      simpa using this
    walk_at "gs"
    refine g_xFld (k1.at_ e List.not_mem_nil) T.cl T.nU l4 ?_
    walk_at "gs"
    refine g_xFld (k1.at_ e List.not_mem_nil) T.cl T.nS l3 ?_
    walk_at "gs"
    refine g_pop (xs := ds) (y := v) (k1.at_ e2 List.not_mem_nil) (by rw [hdl2]; exact hv) fun H2 k2 x2 => ?_
    walk_at "gs"
    have u2 : H2 pu = some (.lst us) := k2.at_ (k1.at_ e3 List.not_mem_nil) (by simpa using Ne.symm n3)
    refine g_append (xs := us) u2 (by omega) fun H3 k3 x3 => ?_
    walk_at "gs"
    have a3 : H3 a = some (.ins C dx fs) := k3.at_ (k2.at_ (k1.at_ e List.not_mem_nil) (by simpa using nad)) (by simpa using nau)
    refine g_xFld a3 T.cl T.nR l2 ?_
    walk_at "gs"
    have r3 : H3 pr = some (.lst rs) := k3.at_ (k2.at_ (k1.at_ e1 List.not_mem_nil) (by simpa using n1)) (by simpa using n2)
    obtain ⟨y, hy⟩ : ∃ y, rs[rs.length - 1]? = some y := ⟨_, List.getElem?_eq_getElem (by omega)⟩
    refine g_pop (xs := rs) (y := y) r3 hy fun H4 k4 x4 => ?_
    walk_at "gs"
    have hst : st.ok s.length := wk.ok st (by simp)
    have q1 : (l' ++ [st]).dropLast = l' := by simp
    have q2 : (l' ++ [st]).getLast?.toList = [st] := by simp
    have k := k H4
    rw [q1, q2, he] at k
    refine k ?_ ⟨⟨dx, fs, pr, pd, pu, b, _, _, _, rfl, k4.at_ a3 (by simpa using nar), z, nm, l1, l2, l3, l4, k4.sqT (k3.sqT (k2.sqT (k1.sqT sb))), x4, k4.at_ (k3.at_ x2 (by simpa using n3)) (by simpa using Ne.symm n1), k4.at_ x3 (by simpa using Ne.symm n2), k4.tdA (k3.tdA (k2.tdA (k1.tdA trs))), k4.tdA (k3.tdA (k2.tdA (k1.tdA tds))), ?_, n1, n2, n3⟩, wk.so, ?_, ?_, wk.n1, wk.n3⟩
    · exact Kp.step1 (Kp.step1 (Kp.step1 (Kp.step0 (Kp.refl _) k1) k2 (.inl (by simp))) k3 (.inl (by simp))) k4 (.inl (by simp))
    · rw [List.map_append]
      exact (k4.tdA (k3.tdA (k2.tdA (k1.tdA t3)))).app (.cons (k4.td (k3.td (k2.td (k1.td tv)))) .nil)
    · exact fun x hx => wk.ok x (by simp [hx])
    · intro x hx
      rcases List.mem_append.mp hx with y | y
      · exact wk.okg x y
      · rw [List.mem_singleton.mp y]
        exact hst
theorem ok_wredo {C : Addr} (F : Fun K "redo" "Walk.redo" s_Walk_redo f fd) (T : WkT K C) (q_Walk_go : Met CX0 P w K mg base 5 C "go" (spGo K C)) : FnOk P w K mg base CX0 6 f fd ["self"] (spRedo K C) := by
  refine F.ok sc_Walk_redo (fun vs H Q E h => ?_) (fun cdv A outer s H vs Q E hr h => ?_)
  · obtain ⟨_, _, _, _, _, rfl, _⟩ := h
    rfl
  obtain ⟨a, ps, s, log, gone, rfl, wk, hz, hzg, k⟩ := h
  refine ⟨_, (pss_cons (ps_if (pt_cmpR (op_eqDK (K := K) hr) (pe_fldK (K := K) (pv 0) rfl) (pe_lst pa_nil) (nomark _)) (pss_one (ps_ret pe_bl)) pss_nil)
      (pss_cons (ps_expr (pe_me q_Walk_go hr (by decide) (pv 0) (pa_cons (pe_bm0 PySem.F.plainAttrs_list PySem.F.slot_list_pop PySem.F.type_list_pop mt_pop (pe_fldK (K := K) (pv 0) rfl)) pa_nil)))
      (pss_one (ps_ret pe_bl)))), ?_⟩
  try dsimp only [nox_K]
  obtain ⟨dx, fs, pr, pd, pu, b, rs, ds, us, hps, e, z, nm, l1, l2, l3, l4, sb, e1, e2, e3, t1, t2, t3, n1, n2, n3⟩ := wk.at_
  walk_at "gs"
  refine g_xFld e T.cl T.nU l4 ?_
  walk_at "gs"
  intro pn H1 npn k1 x1
  have hul : us.length = gone.length := by
    have := t3.length
    rwa [List.length_map] at this
  refine g_rEqDp (d := .list (gone.map Stp.dat)) (e := .list []) (.lst (SqL.of (k1.at_ e3 List.not_mem_nil)) (k1.tdA t3).dp) (.lst (SqL.of x1) .nil) (sh_list _) (by decide +kernel) ?_
  rw [eqv_nilL]
  have nau : a ≠ pu := ne_of e e3 fun z => by cases z
  by_cases hlog : gone = []
  · subst hlog
    walk_at "gs"
    exact k H1 (Kp.step0 (Kp.refl _) k1) (by simpa using k1.wlk wk fun _ _ => List.not_mem_nil)
  · obtain ⟨l', st, rfl⟩ : ∃ l' st, gone = l' ++ [st] := ⟨gone.dropLast, gone.getLast hlog, (List.dropLast_concat_getLast hlog).symm⟩
    have he : (l' ++ [st]).isEmpty = false := by simp
    rw [he]
    obtain ⟨v, hv, tv⟩ := t3.get (i := l'.length) (d := st.dat) (by simp)
    have hul2 : us.length - 1 = l'.length := by
      rw [hul]
      simp
    have tus : TdA K H us.dropLast (l'.map Stp.dat) := by
      have := t3.take l'.length
      rw [List.map_append, List.take_left' (by simp)] at this
      rwa [List.dropLast_eq_take, hul2]
    have hst : st.ok s.length := wk.okg st (by simp)
    walk_at "gs"
    refine g_xMe (k1.at_ e List.not_mem_nil) nm.1 ?_
    walk_at "gs"
    refine g_xFld (k1.at_ e List.not_mem_nil) T.cl T.nU l4 ?_
    walk_at "gs"
    refine g_pop (xs := us) (y := v) (k1.at_ e3 List.not_mem_nil) (by rw [hul2]; exact hv) fun H2 k2 x2 => ?_
    walk_at "gs"
    have wk2 : Wlk K C H2 a ps s log l' := by
      refine ⟨⟨dx, fs, pr, pd, pu, b, rs, ds, _, hps, k2.at_ (k1.at_ e List.not_mem_nil) (by simpa using nau), z, nm, l1, l2, l3, l4, k2.sqT (k1.sqT sb), k2.at_ (k1.at_ e1 List.not_mem_nil) (by simpa using n2), k2.at_ (k1.at_ e2 List.not_mem_nil) (by simpa using n3), x2, k2.tdA (k1.tdA t1), k2.tdA (k1.tdA t2), k2.tdA (k1.tdA tus), n1, n2, n3⟩, wk.so, wk.ok, fun x hx => wk.okg x (by simp [hx]), wk.n1, wk.n3⟩
    refine ⟨a, ps, s, log, l', v, st, rfl, wk2, k2.td (k1.td tv), hst, hz, fun H3 k3 w3 => ?_⟩
    walk_at "gs"
    have q1 : (l' ++ [st]).dropLast = l' := by simp
    have q2 : (l' ++ [st]).getLast?.toList = [st] := by simp
    have k := k H3
    rw [q1, q2, he] at k
    refine k ?_ w3
    refine Kp.trans (Kp.step1 (Kp.step0 (Kp.refl _) k1) k2 (.inl ?_)) k3
    rw [hps]
    simp
theorem ok_wdo {C : Addr} (F : Fun K "do" "Walk.do" s_Walk_do f fd) (N : Nm mg) (T : WkT K C) (c_is_step : Cal CX0 P w K mg base 4 "is_step" (spIsStep K)) (q_Walk_go : Met CX0 P w K mg base 5 C "go" (spGo K C)) : FnOk P w K mg base CX0 6 f fd ["self", "step"] (spWDo K C) := by
  have m_len := N.len
  refine F.ok sc_Walk_do (fun vs H Q E h => ?_) (fun cdv A outer s H vs Q E hr h => ?_)
  · obtain ⟨_, _, _, _, _, _, _, rfl, _⟩ := h
    rfl
  obtain ⟨a, ps, s, log, gone, v, st, rfl, wk, hv, ho, hcn, hz, k⟩ := h
  refine ⟨_, (pss_cons (ps_if (pt_not (pt_val (pe_c c_is_step hr (by first | decide | omega) (by rfl) (pa_cons (pv 1) (pa_cons (pe_callB (w_lenK (K := K)) (by rfl) m_len (by decide +kernel) (pa_cons (pe_fldK (K := K) (pv 0) rfl) pa_nil)) pa_nil))))) (pss_one ps_never) pss_nil)
      (pss_cons (ps_expr (pe_me q_Walk_go hr (by decide) (pv 0) (pa_cons (pv 1) pa_nil)))
      (pss_cons (ps_fld (pv 0) (pe_lst pa_nil) rfl)
      (pss_one (ps_ret (pe_ix (ix_listK (K := K)) (pe_fldK (K := K) (pv 0) rfl) (pe_un un_neg pe_int) (fun _ _ => rfl))))))), ?_⟩
  try dsimp only [nox_K]
  obtain ⟨dx, fs, pr, pd, pu, b, rs, ds, us, hps, e, z, nm, l1, l2, l3, l4, sb, e1, e2, e3, t1, t2, t3, n1, n2, n3⟩ := wk.at_
  walk_at "gs"
  refine g_xFld e T.cl T.nW l1 ?_
  walk_at "gs"
  rw [vI_length]
  refine ap_isStep (d := st.dat) hv.dp ((lay_st st).sh (by decide)) (sz_st hcn) fun H1 k1 => ?_
  rw [stepD_ok ho]
  walk_at "gs"
  refine g_xMe (k1.at_ e List.not_mem_nil) nm.1 ?_
  walk_at "gs"
  have wk1 : Wlk K C H1 a ps s log gone := k1.wlk wk fun _ _ => List.not_mem_nil
  refine ⟨a, ps, s, log, gone, v, st, rfl, wk1, k1.td hv, ho, hz, fun H2 k2 w2 => ?_⟩
  walk_at "gs"
  obtain ⟨dx, fs, pr, pd, pu, b, rs, ds, us, hps, e, z, nm, l1, l2, l3, l4, sb, e1, e2, e3, t1, t2, t3, n1, n2, n3⟩ := w2.at_
  intro pn H3 npn k3 x3
  have nan : a ≠ pn := ne_of_none e npn
  walk_at "gs"
  refine g_xSF (k3.at_ e List.not_mem_nil) T.cl T.nU (by omega) fun H4 k4 x4 => ?_
  walk_at "gs"
  have npr : pr ≠ pn := ne_of_none e1 npn
  have npd : pd ≠ pn := ne_of_none e2 npn
  have nap : a ≠ pr := ne_of e e1 fun z => by cases z
  have nad : a ≠ pd := ne_of e e2 fun z => by cases z
  have m1 : ∀ g : Str, ¬ g = ("undone" : Str) → (putF "undone" (V.ref pn) fs).lookup g = fs.lookup g := fun g hg => by rw [lookup_putF, if_neg hg]
  have lr : (putF "undone" (V.ref pn) fs).lookup ("rows" : Str) = some (.ref pr) := by rw [m1 _ (by decide +kernel)]; exact l2
  refine g_xFld x4 T.cl T.nR lr ?_
  walk_at "gs"
  have r4 : H4 pr = some (.lst rs) := k4.at_ (k3.at_ e1 List.not_mem_nil) (by simpa using Ne.symm nap)
  have hal : rs.length = (log ++ [st]).length + 1 := by
    have := t1.length
    rw [List.length_map, traceZ_len] at this
    exact this
  have t4 := k4.tdA (k3.tdA t1)
  obtain ⟨u, hu, du⟩ := t4.get (i := (log ++ [st]).length) (d := dInts (shownZ s (log ++ [st]))) (by rw [List.getElem?_map, traceZ_last]; rfl)
  refine g_ixL (xs := rs) (SqL.of r4) (v := u) (by rw [← hu]; exact atI_end hal) ?_
  obtain ⟨p, xu, rfl, su, tu⟩ := du.inv
  obtain rfl := tu.vIInv
  have hlen : (putF "undone" (V.ref pn) fs).length < 900 := by
    rw [putF_same _ _ l4]
    exact z
  refine k p [a, pr, pd, pn] H4 ?_ ?_ ⟨⟨dx, _, pr, pd, pn, b, rs, ds, [], rfl, x4, hlen, ⟨by rw [m1 _ (by decide +kernel)]; exact nm.1, by rw [m1 _ (by decide +kernel)]; exact nm.2.1, by rw [m1 _ (by decide +kernel)]; exact nm.2.2.1, by rw [m1 _ (by decide +kernel)]; exact nm.2.2.2.1, by rw [m1 _ (by decide +kernel)]; exact nm.2.2.2.2⟩, by rw [m1 _ (by decide +kernel)]; exact l1, lr, by rw [m1 _ (by decide +kernel)]; exact l3, by rw [lookup_putF, if_pos rfl], k4.sqT (k3.sqT sb), r4, k4.at_ (k3.at_ e2 List.not_mem_nil) (by simpa using Ne.symm nad), k4.at_ x3 (by simpa using Ne.symm nan), t4, k4.tdA (k3.tdA t2), .nil, n1, npr, npd⟩, w2.so, w2.ok, fun x h => (List.not_mem_nil h).elim, w2.n1, w2.n3⟩ su
  · exact Kp.step1 (Kp.step0 (Kp.trans (Kp.step0 (Kp.refl _) k1) k2) k3) k4 (.inl (by rw [hps]; simp))
  · intro x hx
    simp only [List.mem_cons, List.not_mem_nil, or_false] at hx
    rcases hx with rfl | rfl | rfl | rfl
    · exact .inl (by rw [hps]; simp)
    · exact .inl (by rw [hps]; simp)
    · exact .inl (by rw [hps]; simp)
    · exact .inr (Th.none k1.th (Th.none k2.th npn))
end
abbrev s_Walk_script : Stmt := inClass (topS 31) 8
abbrev n_Walk_script : List Str := ["self", "many", "steps"]
theorem sc_Walk_script : FnScope n_Walk_script ["self", "many"] (defScope s_Walk_script) := ⟨rfl, rfl, rfl, by decide +kernel, rfl, by decide +kernel, by decide +kernel⟩
section
variable {P : Program} {w : World} {K : PySem.W.Frag} {mg : Str → Option Value} {base : Heap} {f : Addr} {fd : FuncData}
theorem ok_wscript {C D : Addr} (F : Fun K "script" "Walk.script" s_Walk_script f fd) (N : Nm mg) (T : WkT K C) (c_is_integer : Cal CX0 P w K mg base 1 "is_integer" (spIsInt K)) (c_all_plain : Cal CX0 P w K mg base 1 "all_plain" (spAllPlain K)) (k_Script : Mak CX0 P w K mg base 5 "Script" D (spInit K D)) (g_MOST_STEPS : Gc mg "MOST_STEPS" (.int 5)) : FnOk P w K mg base CX0 7 f fd ["self", "many"] (spWScript K C D) := by
  have m_len := N.len
  have m_tuple := N.tuple
  refine F.ok sc_Walk_script (fun vs H Q E h => ?_) (fun cdv A outer s H vs Q E hr h => ?_)
  · obtain ⟨_, _, _, _, _, _, rfl, _⟩ := h
    rfl
  obtain ⟨a, ps, s, log, gone, m, rfl, wk, hz, hm, hc, k⟩ := h
  refine ⟨_, (pss_cons (ps_if (pt_not (pt_val (pe_c c_is_integer hr (by first | decide | omega) (by rfl) (pa_cons (pv 1) (pa_cons pe_int (pa_cons (pe_callB (w_lenK (K := K)) (by rfl) m_len (by decide +kernel) (pa_cons (pe_fldK (K := K) (pv 0) rfl) pa_nil)) pa_nil)))))) (pss_one ps_never) pss_nil)
      (pss_cons (ps_set (i := 2) sc_Walk_script.nd rfl (by first | exact Or.inl rfl | exact Or.inr rfl) (pe_callTy (w_tupleK (K := K)) (by rfl) m_tuple (by decide +kernel) (pa_cons (pe_slice (sl_listK (K := K)) (pe_fldK (K := K) (pv 0) rfl) (po_some (pe_op op_sub (pe_callB (w_lenK (K := K)) (by rfl) m_len (by decide +kernel) (pa_cons (pe_fldK (K := K) (pv 0) rfl) pa_nil)) (pv 1))) po_none) pa_nil)))
      (pss_cons (ps_if (pt_cmpR op_gt (pe_callB (w_lenK (K := K)) (by rfl) m_len (by decide +kernel) (pa_cons (pe_c c_all_plain hr (by first | decide | omega) (by rfl) (pa_cons (pv 2) pa_nil)) pa_nil)) (pe_g (by rfl) g_MOST_STEPS) (nomark _)) (pss_one ps_never) pss_nil)
      (pss_one (ps_ret (pe_mk k_Script hr (by first | decide | omega) (by rfl) (pa_cons (pe_callB (w_lenK (K := K)) (by rfl) m_len (by decide +kernel) (pa_cons (pe_fldK (K := K) (pv 0) rfl) pa_nil)) (pa_cons (pv 2) pa_nil)))))))), ?_⟩
  try dsimp only [nox_K]
  obtain ⟨dx, fs, pr, pd, pu, b, rs, ds, us, rfl, e, z, nm, l1, l2, l3, l4, sb, e1, e2, e3, t1, t2, t3, n1, n2, n3⟩ := wk.at_
  have hdl : ds.length = log.length := by
    have := t2.length
    rwa [List.length_map] at this
  walk_at "gs"
  refine g_xFld e T.cl T.nS l3 ?_
  walk_at "gs"
  intro H1 k1
  have hi : intIn 0 (ds.length : Int) (.int (m : Int)) = true := by
    simp only [intIn, Bool.and_eq_true, decide_eq_true_eq]
    omega
  rw [hi]
  walk_at "gs"
  have ek : H1 a = some (.ins C dx fs) := k1.at_ e List.not_mem_nil
  have e2k : H1 pd = some (.lst ds) := k1.at_ e2 List.not_mem_nil
  refine g_xFld ek T.cl T.nS l3 ?_
  walk_at "gs"
  refine g_xFld ek T.cl T.nS l3 ?_
  walk_at "gs"
  intro ps H2 np k2 x2
  have hcut : cutV ds (some ((ds.length : Int) - (m : Int))) none = ds.drop (log.length - m) := by
    rw [← cutV_drop]
    congr 2
    omega
  rw [hcut] at x2
  have td : TdA K H2 (ds.drop (log.length - m)) ((log.drop (log.length - m)).map Stp.dat) := by
    rw [List.map_drop]
    exact (k2.tdA (k1.tdA t2)).drop _
  walk_at "gs"
  intro pt H3 npt k3 x3
  walk_at "gs"
  refine ap_allPlain (SqT.of x3) (k3.tdA td) (by omega) fun q ws H4 nq k4 e4 t4 => ?_
  walk_at "gs"
  have hw := t4.length
  rw [List.length_map, flat_len] at hw
  refine g_both (fun c => absurd c (by omega)) (fun c => ?_)
  walk_at "gs"
  have e5 : H4 a = some (.ins C dx fs) := by walk_at "h"
  refine g_xFld e5 T.cl T.nW l1 ?_
  walk_at "gs"
  rw [vI_length]
  refine ap_script (n := s.length) (l := log.drop (log.length - m)) (.tup (SqT.of (k4.at_ x3 List.not_mem_nil)) (k4.tdA (k3.tdA td))) (wk.ok.drop _) hc wk.n1 wk.n3 fun mo H5 nmo k5 so => ?_
  refine k mo H5 ?_ (by walk_at "k") so
  exact Th.none (k1.th.trans (k2.th.trans (k3.th.trans k4.th))) nmo
end
abbrev s_Walk_init : Stmt := inClass (topS 31) 0
abbrev n_Walk_init : List Str := ["self", "sizes", "wheels"]
theorem sc_Walk_init : FnScope n_Walk_init ["self", "sizes"] (defScope s_Walk_init) := ⟨rfl, rfl, rfl, by decide +kernel, rfl, by decide +kernel, by decide +kernel⟩
abbrev s_Script_eq : Stmt := inClass (topS 20) 5
abbrev n_Script_eq : List Str := ["self", "other"]
theorem sc_Script_eq : FnScope n_Script_eq ["self", "other"] (defScope s_Script_eq) := ⟨rfl, rfl, rfl, by decide +kernel, rfl, by decide +kernel, by decide +kernel⟩
section
variable {P : Program} {w : World} {K : PySem.W.Frag} {mg : Str → Option Value} {base : Heap} {f : Addr} {fd : FuncData}
theorem ok_seq {C : Addr} (F : Fun K "__eq__" "Script.__eq__" s_Script_eq f fd) (N : Nm mg) (T : ScT K C) (Is : IsT K C) (v_Script : Gc mg "Script" (.ref C)) : FnOk P w K mg base CX0 1 f fd ["self", "other"] (spSEq K C) := by
  have m_isinstance := N.isinstance
  refine F.ok sc_Script_eq (fun vs H Q E h => ?_) (fun cdv A outer s H vs Q E hr h => ?_)
  · obtain ⟨_, _, _, _, _, _, rfl, _⟩ := h
    rfl
  obtain ⟨a, b, n, n', l, l', rfl, sa, sb, k⟩ := h
  refine ⟨_, (pss_one (ps_ret (pe_and (pe_callB (w_isiK (K := K)) (by rfl) m_isinstance (by decide +kernel) (pa_cons (pv 1) (pa_cons (pe_g (by rfl) v_Script) pa_nil))) (pe_and (pe_cmpR op_eq (pe_fldK (K := K) (pv 0) rfl) (pe_fldK (K := K) (pv 1) rfl) (nomark _)) (pe_one (pe_cmpR (op_eqDK (K := K) hr) (pe_fldK (K := K) (pv 0) rfl) (pe_fldK (K := K) (pv 1) rfl) (nomark _))))))), ?_⟩
  try dsimp only [nox_K]
  walk_at "gs"
  obtain ⟨dx, v, e, t⟩ := sb.at_
  refine g_isiIns e T.cl Is ?_
  walk_at "gs"
  refine g_both (fun c => ?_) (fun c => ?_)
  · have c' : n = n' := by omega
    walk_at "gs"
    intro p1 x1 s1 t1
    walk_at "gs"
    intro p2 x2 s2 t2
    walk_at "gs"
    refine g_rEqDp (d := dSteps l) (e := dSteps l') (Td.tup s1 t1).dp (Td.tup s2 t2).dp ((lay_steps l).sh (by decide)) ((lay_steps l').sh (by decide)) ?_
    have := k H (Kp.refl _)
    rw [decide_eq_true c', Bool.true_and] at this
    exact this
  · have c' : ¬ n = n' := fun z => c (by rw [z])
    have := k H (Kp.refl _)
    rw [decide_eq_false c', Bool.false_and] at this
    exact this
theorem ok_winit {C : Addr} (F : Fun K "__init__" "Walk.__init__" s_Walk_init f fd) (N : Nm mg) (T : WkT K C) (c_are_sizes : Cal CX0 P w K mg base 2 "are_sizes" (spAreSizes K)) (c_first_of : Cal CX0 P w K mg base 1 "first_of" (spFirst K)) (g_MOST_WHEELS : Gc mg "MOST_WHEELS" (.int 3)) : FnOk P w K mg base CX0 3 f fd ["self", "sizes"] (spWInit K C) := by
  have m_any := N.any
  have m_range := N.range
  refine F.ok sc_Walk_init (fun vs H Q E h => ?_) (fun cdv A outer s H vs Q E hr h => ?_)
  · obtain ⟨_, _, _, _, rfl, _⟩ := h
    rfl
  obtain ⟨p, dx, b, s, rfl, hp, hs, so, h1, h3, k⟩ := h
  refine ⟨_, (pss_cons (ps_if (pt_not (pt_val (pe_callB (cr_anyK (K := K) (by rfl)) (by rfl) m_any (by decide +kernel) (pa_cons (pe_lc (own := [("wheels", 2)]) (tt := tYes) (by rfl) sc_Walk_init.nd (pi_range2 (by rfl) m_range (pa_cons pe_int (pa_cons (pe_op op_add (pe_g (by rfl) g_MOST_WHEELS) pe_int) pa_nil))) (blkOk_by (own := [("wheels", 2)]) (N := n_Walk_init) (sc := defScope s_Walk_init) (by decide +kernel)) (fun _ _ _ _ _ => (pg_name (i := 2) sc_Walk_init.nd rfl (by first | exact Or.inl rfl | exact Or.inr rfl))) (fun _ _ _ _ _ => pts_nil) (fun _ _ _ _ _ => (pe_c c_are_sizes hr (by first | decide | omega) (by rfl) (pa_cons (pv 1) (pa_cons (pv 2) pa_nil))))) pa_nil)))) (pss_one ps_never) pss_nil)
      (pss_cons (ps_fld (pv 0) (pv 1) rfl)
      (pss_cons (ps_fld (pv 0) (pe_lst (pa_cons (pe_c c_first_of hr (by first | decide | omega) (by rfl) (pa_cons (pv 1) pa_nil)) pa_nil)) rfl)
      (pss_cons (ps_fld (pv 0) (pe_lst pa_nil) rfl)
      (pss_one (ps_fld (pv 0) (pe_lst pa_nil) rfl)))))), ?_⟩
  try dsimp only [nox_K]
  walk_at "gs"
  refine g_xRng2 (by omega) ?_
  refine g_compR (fun D j acc H' => Kp [] H H' ∧ acc = ((List.range j).map fun e => V.bl (sizesD (1 + e) (dInts s)))) (fun D H1 hD k1 => ⟨k1, rfl⟩) (fun D j acc H1 nD hj eD ⟨k1, ha⟩ => ?_) (fun D acc H1 nD eD ⟨k1, ha⟩ => ?_)
  · walk_at "gs"
    rw [show (1 : Int) + (j : Int) = ((1 + j : Nat) : Int) by omega]
    refine ap_areSizes (d := dInts s) (Td.vI (k1.sqT hs)).dp (fun ds e => by cases e; rw [List.length_map]; omega) fun H2 k2 => ?_
    subst ha
    refine g_xEl (by walk_at "h") (by simp; omega) fun H3 k3 e3 => ⟨Kp.step1 (k1.trans k2) k3 (.inr nD), ?_⟩
    rw [List.range_succ, List.map_append]
    rfl
  · walk_at "gs"
    have hj : ((3 : Int) + 1 - 1).toNat = 3 := by decide
    rw [hj] at ha
    refine g_any (bs := [sizesD 1 (dInts s), sizesD 2 (dInts s), sizesD 3 (dInts s)]) (SqL.of (by rw [eD, ha]; rfl)) ?_
    have hany : [sizesD 1 (dInts s), sizesD 2 (dInts s), sizesD 3 (dInts s)].any id = true := by
      have := sizesD_ok so
      simp only [List.any_cons, List.any_nil, id, Bool.or_eq_true]
      obtain e | e | e : s.length = 1 ∨ s.length = 2 ∨ s.length = 3 := by omega
      · rw [e] at this; exact .inl this
      · rw [e] at this; exact .inr (.inl this)
      · rw [e] at this; exact .inr (.inr (.inl this))
    rw [hany]
    walk_at "gs"
    refine g_xSF (k1.at_ hp List.not_mem_nil) T.cl T.nW (by decide) fun H2 k2 e2 => ?_
    walk_at "gs"
    refine ap_first (k2.sqT (k1.sqT hs)) h1 (by omega) fun z H3 k3 hz => ?_
    walk_at "gs"
    intro pr H4 npr k4 e4
    walk_at "gs"
    have z1 := length_putF "wide" (V.ref b) []
    have z2 := length_putF "rows" (V.ref pr) (putF "wide" (V.ref b) [])
    simp only [List.length_nil] at z1
    refine g_xSF (k4.at_ (k3.at_ e2 List.not_mem_nil) List.not_mem_nil) T.cl T.nR (by omega) fun H5 k5 e5 => ?_
    walk_at "gs"
    intro pd H6 npd k6 e6
    walk_at "gs"
    refine g_xSF (k6.at_ e5 List.not_mem_nil) T.cl T.nS (by omega) fun H7 k7 e7 => ?_
    have z3 := length_putF "steps_done" (V.ref pd) (putF "rows" (V.ref pr) (putF "wide" (V.ref b) []))
    walk_at "gs"
    intro pu H8 npu k8 e8
    walk_at "gs"
    refine g_xSF (k8.at_ e7 List.not_mem_nil) T.cl T.nU (by omega) fun H9 k9 e9 => ?_
    walk_at "gs"
    have z4 := length_putF "undone" (V.ref pu) (putF "steps_done" (V.ref pd) (putF "rows" (V.ref pr) (putF "wide" (V.ref b) [])))
    have npr2 : p ≠ pr := ne_of_none (by walk_at "h") npr
    have npd2 : p ≠ pd := ne_of_none e5 npd
    have npu2 : p ≠ pu := ne_of_none e7 npu
    have nprd : pr ≠ pd := ne_of_none (k5.at_ e4 (by simpa using Ne.symm npr2)) npd
    have r7 : H7 pr = some (.lst [V.ref z]) := k7.at_ (k6.at_ (k5.at_ e4 (by simpa using Ne.symm npr2)) List.not_mem_nil) (by simpa using Ne.symm npr2)
    have d7 : H7 pd = some (.lst []) := k7.at_ e6 (by simpa using Ne.symm npd2)
    have npru : pr ≠ pu := ne_of_none r7 npu
    have npdu : pd ≠ pu := ne_of_none d7 npu
    have kk : Kp [p] H H9 := Kp.step1 (Kp.step0 (Kp.step1 (Kp.step0 (Kp.step1 (Kp.step0 (Kp.step0 (Kp.step1 (Kp.step0 (Kp.refl _) k1) k2 (.inl (by simp))) k3) k4) k5 (.inl (by simp))) k6) k7 (.inl (by simp))) k8) k9 (.inl (by simp))
    have th1 : Th H H3 := k1.th.trans (k2.th.trans k3.th)
    have th2 : Th H H5 := th1.trans (k4.th.trans k5.th)
    have th3 : Th H H7 := th2.trans (k6.th.trans k7.th)
    have q1 : ∀ f g : Str, ¬ f = g → ∀ v fs, (putF g v fs).lookup f = fs.lookup f := fun f g hfg v fs => by rw [lookup_putF, if_neg hfg]
    refine k [p, pr, pd, pu] H9 kk (fun x hx => ?_) ⟨⟨dx, _, pr, pd, pu, b, _, _, _, rfl, e9, by omega, ⟨?_, ?_, ?_, ?_, ?_⟩, ?_, ?_, ?_, ?_, kk.sqT hs, k9.at_ (k8.at_ r7 List.not_mem_nil) (by simpa using Ne.symm npr2), k9.at_ (k8.at_ d7 List.not_mem_nil) (by simpa using Ne.symm npd2), k9.at_ e8 (by simpa using Ne.symm npu2), ?_, .nil, .nil, nprd, npru, npdu⟩, so, (fun _ z => nomatch z), (fun _ z => nomatch z), h1, h3⟩
    · simp only [List.mem_cons, List.not_mem_nil, or_false] at hx
      rcases hx with rfl | rfl | rfl | rfl
      · exact .inl rfl
      · exact .inr (th1.none npr)
      · exact .inr (th2.none npd)
      · exact .inr (th3.none npu)
    · simp only [q1 _ _ (show ¬ ("go" : Str) = "undone" by decide +kernel), q1 _ _ (show ¬ ("go" : Str) = "steps_done" by decide +kernel), q1 _ _ (show ¬ ("go" : Str) = "rows" by decide +kernel), q1 _ _ (show ¬ ("go" : Str) = "wide" by decide +kernel)]
      rfl
    · simp only [q1 _ _ (show ¬ ("do" : Str) = "undone" by decide +kernel), q1 _ _ (show ¬ ("do" : Str) = "steps_done" by decide +kernel), q1 _ _ (show ¬ ("do" : Str) = "rows" by decide +kernel), q1 _ _ (show ¬ ("do" : Str) = "wide" by decide +kernel)]
      rfl
    · simp only [q1 _ _ (show ¬ ("undo" : Str) = "undone" by decide +kernel), q1 _ _ (show ¬ ("undo" : Str) = "steps_done" by decide +kernel), q1 _ _ (show ¬ ("undo" : Str) = "rows" by decide +kernel), q1 _ _ (show ¬ ("undo" : Str) = "wide" by decide +kernel)]
      rfl
    · simp only [q1 _ _ (show ¬ ("redo" : Str) = "undone" by decide +kernel), q1 _ _ (show ¬ ("redo" : Str) = "steps_done" by decide +kernel), q1 _ _ (show ¬ ("redo" : Str) = "rows" by decide +kernel), q1 _ _ (show ¬ ("redo" : Str) = "wide" by decide +kernel)]
      rfl
    · simp only [q1 _ _ (show ¬ ("script" : Str) = "undone" by decide +kernel), q1 _ _ (show ¬ ("script" : Str) = "steps_done" by decide +kernel), q1 _ _ (show ¬ ("script" : Str) = "rows" by decide +kernel), q1 _ _ (show ¬ ("script" : Str) = "wide" by decide +kernel)]
      rfl
    · rw [q1 _ _ (show ¬ ("wide" : Str) = "undone" by decide +kernel), q1 _ _ (show ¬ ("wide" : Str) = "steps_done" by decide +kernel), q1 _ _ (show ¬ ("wide" : Str) = "rows" by decide +kernel), lookup_putF, if_pos rfl]
    · rw [q1 _ _ (show ¬ ("rows" : Str) = "undone" by decide +kernel), q1 _ _ (show ¬ ("rows" : Str) = "steps_done" by decide +kernel), lookup_putF, if_pos rfl]
    · rw [q1 _ _ (show ¬ ("steps_done" : Str) = "undone" by decide +kernel), lookup_putF, if_pos rfl]
    · rw [lookup_putF, if_pos rfl]
    · have hz9 : Td K H9 (.ref z) (dInts (zeros s.length)) := Td.vI (k9.sqT (k8.sqT (k7.sqT (k6.sqT (k5.sqT (k4.sqT hz))))))
      exact .cons hz9 .nil
end
abbrev s_InvalidSizes_init : Stmt := inClass (topS 7) 0
abbrev s_InvalidSteps_init : Stmt := inClass (topS 4) 0
abbrev s_InvalidNumber_init : Stmt := inClass (topS 8) 0
abbrev s_TooLong_init : Stmt := inClass (topS 6) 0
abbrev s_law_made : Stmt := topS 40
abbrev n_law_made : List Str := ["_law_sizes", "_law_found", "error"]
theorem sc_law_made : FnScope n_law_made ["_law_sizes"] (defScope s_law_made) := ⟨rfl, rfl, rfl, by decide +kernel, rfl, by decide +kernel, by decide +kernel⟩
abbrev s_law_refused : Stmt := topS 41
abbrev n_law_refused : List Str := ["_law_walk", "_law_step_here", "_law_found", "error"]
theorem sc_law_refused : FnScope n_law_refused ["_law_walk", "_law_step_here"] (defScope s_law_refused) := ⟨rfl, rfl, rfl, by decide +kernel, rfl, by decide +kernel, by decide +kernel⟩
abbrev s_law_script : Stmt := topS 42
abbrev n_law_script : List Str := ["_law_walk", "_law_many_here", "_law_found"]
theorem sc_law_script : FnScope n_law_script ["_law_walk", "_law_many_here"] (defScope s_law_script) := ⟨rfl, rfl, rfl, by decide +kernel, rfl, by decide +kernel, by decide +kernel⟩
section
variable {P : Program} {w : World} {K : PySem.W.Frag} {mg : Str → Option Value} {base : Heap} {f : Addr} {fd : FuncData}
def NoSz (d : PyData) : Prop := sizesD 1 d = false ∧ sizesD 2 d = false ∧ sizesD 3 d = false
def spWInitX (K : PySem.W.Frag) (C IS : Addr) : Sp := fun vs H Q E => ∃ (p dx : Addr) (v : V) (d : PyData), vs = [.ref p, v] ∧ H p = some (.ins C dx []) ∧ Dp K H v d ∧ Sz1 d ∧ NoSz d ∧ ∀ H', Kp [] H H' → E (.ref IS) none H'
def spWDoX (K : PySem.W.Frag) (C IT : Addr) : Sp := fun vs H Q E => ∃ (a : Addr) (ps : List Addr) (s : List Int) (log gone : List Stp) (v : V) (d : PyData), vs = [.ref a, v] ∧ Wlk K C H a ps s log gone ∧ Dp K H v d ∧ SeqAt.shaped d = true ∧ Sz2 d ∧ stepD s.length d = false ∧
  ∀ (dx : Addr) (H' : Hp), Kp [] H H' → H' dx = some (.xd [("index", .non)]) → E (.ref IT) (some dx) H'
def spWScriptX (K : PySem.W.Frag) (C IN TL : Addr) : Sp := fun vs H Q E => ∃ (a : Addr) (ps : List Addr) (s : List Int) (log gone : List Stp) (v : V) (d : PyData), vs = [.ref a, v] ∧ Wlk K C H a ps s log gone ∧ Dp K H v d ∧ log.length ≤ 300 ∧ cnts log ≤ 1000 ∧
  (intIn 0 (log.length : Nat) d = false → ∀ H', Kp [] H H' → E (.ref IN) none H') ∧ (∀ m : Nat, d = .int m → m ≤ log.length → 5 < cnts (log.drop (log.length - m)) → ∀ H', Kp [] H H' → E (.ref TL) none H') ∧
  (∀ m : Nat, d = .int m → m ≤ log.length → cnts (log.drop (log.length - m)) ≤ 5 → ∀ (p : Addr) (H' : Hp), Kp [] H H' → Q (.ref p) H')
theorem ok_winitX {C IS : Addr} (F : Fun K "__init__" "Walk.__init__" s_Walk_init f fd) (N : Nm mg) (x_InvalidSizes : Rz K P mg "InvalidSizes" IS) (c_are_sizes : Cal CX0 P w K mg base 2 "are_sizes" (spAreSizes K)) (g_MOST_WHEELS : Gc mg "MOST_WHEELS" (.int 3)) : FnOk P w K mg base (L2.CX P w) 3 f fd ["self", "sizes"] (spWInitX K C IS) := by
  have m_any := N.any
  have m_range := N.range
  refine F.okX sc_Walk_init (fun vs H Q E h => ?_) (fun cdv A outer s H vs Q E hr h => ?_)
  · obtain ⟨_, _, _, _, rfl, _⟩ := h
    rfl
  obtain ⟨p, dx, v, d, rfl, hp, hv, hz, hn, k⟩ := h
  refine ⟨_, (pss_cons (ps_if (pt_not (pt_val (pe_callB (cr_anyK (K := K) (by rfl)) (by rfl) m_any (by decide +kernel) (pa_cons (pe_lc (own := [("wheels", 2)]) (tt := tYes) (by rfl) sc_Walk_init.nd (pi_range2 (by rfl) m_range (pa_cons pe_int (pa_cons (pe_op op_add (pe_g (by rfl) g_MOST_WHEELS) pe_int) pa_nil))) (blkOk_by (own := [("wheels", 2)]) (N := n_Walk_init) (sc := defScope s_Walk_init) (by decide +kernel)) (fun _ _ _ _ _ => (pg_name (i := 2) sc_Walk_init.nd rfl (by first | exact Or.inl rfl | exact Or.inr rfl))) (fun _ _ _ _ _ => pts_nil) (fun _ _ _ _ _ => (pe_c c_are_sizes hr (by first | decide | omega) (by rfl) (pa_cons (pv 1) (pa_cons (pv 2) pa_nil))))) pa_nil)))) (pss_one (ps_raise rfl (takes_of rfl rfl rfl rfl) (pmk_rz x_InvalidSizes hr (by rfl)))) pss_nil)
      (pss_cons ps_never (pss_cons ps_never (pss_cons ps_never (pss_one ps_never))))), ?_⟩
  try dsimp only [cx_K]
  walk_at "gs"
  refine g_xRng2 (by omega) ?_
  refine g_compR (fun D j acc H' => Kp [] H H' ∧ acc = ((List.range j).map fun e => V.bl (sizesD (1 + e) d))) (fun D H1 hD k1 => ⟨k1, rfl⟩) (fun D j acc H1 nD hj eD ⟨k1, ha⟩ => ?_) (fun D acc H1 nD eD ⟨k1, ha⟩ => ?_)
  · walk_at "gs"
    rw [show (1 : Int) + (j : Int) = ((1 + j : Nat) : Int) by omega]
    refine ap_areSizes (d := d) (k1.dp hv) hz fun H2 k2 => ?_
    subst ha
    refine g_xEl (by walk_at "h") (by simp; omega) fun H3 k3 e3 => ⟨Kp.step1 (k1.trans k2) k3 (.inr nD), ?_⟩
    rw [List.range_succ, List.map_append]
    rfl
  · walk_at "gs"
    have hj : ((3 : Int) + 1 - 1).toNat = 3 := by decide
    rw [hj] at ha
    refine g_any (bs := [sizesD 1 d, sizesD 2 d, sizesD 3 d]) (SqL.of (by rw [eD, ha]; rfl)) ?_
    rw [hn.1, hn.2.1, hn.2.2]
    walk_at "gs"
    exact k H1 k1
theorem ok_wdoX {C IT : Addr} (F : Fun K "do" "Walk.do" s_Walk_do f fd) (N : Nm mg) (T : WkT K C) (x_InvalidSteps : RzF K P mg "InvalidSteps" "index" IT) (c_is_step : Cal CX0 P w K mg base 4 "is_step" (spIsStep K)) : FnOk P w K mg base (L2.CX P w) 6 f fd ["self", "step"] (spWDoX K C IT) := by
  have m_len := N.len
  refine F.okX sc_Walk_do (fun vs H Q E h => ?_) (fun cdv A outer s H vs Q E hr h => ?_)
  · obtain ⟨_, _, _, _, _, _, _, rfl, _⟩ := h
    rfl
  obtain ⟨a, ps, s, log, gone, v, d, rfl, wk, hv, sh, sz, nd, k⟩ := h
  refine ⟨_, (pss_cons (ps_if (pt_not (pt_val (pe_c c_is_step hr (by first | decide | omega) (by rfl) (pa_cons (pv 1) (pa_cons (pe_callB (w_lenK (K := K)) (by rfl) m_len (by decide +kernel) (pa_cons (pe_fldK (K := K) (pv 0) rfl) pa_nil)) pa_nil))))) (pss_one (ps_raise rfl (takes_of rfl rfl rfl rfl) (pmk_rzF x_InvalidSteps hr (by rfl) pe_non))) pss_nil)
      (pss_cons ps_never (pss_cons ps_never (pss_one ps_never)))), ?_⟩
  try dsimp only [cx_K]
  obtain ⟨dx, fs, pr, pd, pu, b, rs, ds, us, hps, e, z, nm, l1, l2, l3, l4, sb, e1, e2, e3, t1, t2, t3, n1, n2, n3⟩ := wk.at_
  walk_at "gs"
  refine g_xFld e T.cl T.nW l1 ?_
  walk_at "gs"
  rw [vI_length]
  intro H1 k1
  rw [nd]
  walk_at "gs"
  refine g_mkF ?_
  walk_at "gs"
  intro dx2 nx
  exact k dx2 _ (k1.trans (Kp.new nx)) upd_same
theorem intIn_inv {lo hi : Int} {d : PyData} (h : intIn lo hi d = true) : ∃ i, d = .int i ∧ lo ≤ i ∧ i ≤ hi := by
  cases d with
  | int i =>
    simp only [intIn, Bool.and_eq_true, decide_eq_true_eq] at h
    exact ⟨i, rfl, h.1, h.2⟩
  | _ => cases h
theorem dp_int {H : Hp} {v : V} {i : Int} (h : Dp K H v (.int i)) : v = .int i := by
  cases h
  rfl
theorem ok_wscriptX {C D IN TL : Addr} (F : Fun K "script" "Walk.script" s_Walk_script f fd) (N : Nm mg) (T : WkT K C) (x_InvalidNumber : Rz K P mg "InvalidNumber" IN) (x_TooLong : Rz K P mg "TooLong" TL) (c_is_integer : Cal CX0 P w K mg base 1 "is_integer" (spIsInt K)) (c_all_plain : Cal CX0 P w K mg base 1 "all_plain" (spAllPlain K)) (k_Script : Mak CX0 P w K mg base 5 "Script" D (spInit K D)) (g_MOST_STEPS : Gc mg "MOST_STEPS" (.int 5)) : FnOk P w K mg base (L2.CX P w) 7 f fd ["self", "many"] (spWScriptX K C IN TL) := by
  have m_len := N.len
  have m_tuple := N.tuple
  refine F.okX sc_Walk_script (fun vs H Q E h => ?_) (fun cdv A outer s H vs Q E hr h => ?_)
  · obtain ⟨_, _, _, _, _, _, _, rfl, _⟩ := h
    rfl
  obtain ⟨a, ps, s, log, gone, v, d, rfl, wk, hv, hz, hcn, kN, kL, kR⟩ := h
  refine ⟨_, (pss_cons (ps_if (pt_not (pt_val (pe_c c_is_integer hr (by first | decide | omega) (by rfl) (pa_cons (pv 1) (pa_cons pe_int (pa_cons (pe_callB (w_lenK (K := K)) (by rfl) m_len (by decide +kernel) (pa_cons (pe_fldK (K := K) (pv 0) rfl) pa_nil)) pa_nil)))))) (pss_one (ps_raise rfl (takes_of rfl rfl rfl rfl) (pmk_rz x_InvalidNumber hr (by rfl)))) pss_nil)
      (pss_cons (ps_set (i := 2) sc_Walk_script.nd rfl (by first | exact Or.inl rfl | exact Or.inr rfl) (pe_callTy (w_tupleK (K := K)) (by rfl) m_tuple (by decide +kernel) (pa_cons (pe_slice (sl_listK (K := K)) (pe_fldK (K := K) (pv 0) rfl) (po_some (pe_op op_sub (pe_callB (w_lenK (K := K)) (by rfl) m_len (by decide +kernel) (pa_cons (pe_fldK (K := K) (pv 0) rfl) pa_nil)) (pv 1))) po_none) pa_nil)))
      (pss_cons (ps_if (pt_cmpR op_gt (pe_callB (w_lenK (K := K)) (by rfl) m_len (by decide +kernel) (pa_cons (pe_c c_all_plain hr (by first | decide | omega) (by rfl) (pa_cons (pv 2) pa_nil)) pa_nil)) (pe_g (by rfl) g_MOST_STEPS) (nomark _)) (pss_one (ps_raise rfl (takes_of rfl rfl rfl rfl) (pmk_rz x_TooLong hr (by rfl)))) pss_nil)
      (pss_one (ps_ret (pe_mk k_Script hr (by first | decide | omega) (by rfl) (pa_cons (pe_callB (w_lenK (K := K)) (by rfl) m_len (by decide +kernel) (pa_cons (pe_fldK (K := K) (pv 0) rfl) pa_nil)) (pa_cons (pv 2) pa_nil)))))))), ?_⟩
  try dsimp only [cx_K]
  obtain ⟨dx, fs, pr, pd, pu, b, rs, ds, us, rfl, e, z, nm, l1, l2, l3, l4, sb, e1, e2, e3, t1, t2, t3, n1, n2, n3⟩ := wk.at_
  have hdl : ds.length = log.length := by
    have := t2.length
    rwa [List.length_map] at this
  walk_at "gs"
  refine g_xFld e T.cl T.nS l3 ?_
  walk_at "gs"
  intro H1 k1
  rw [hdl]
  cases hi : intIn 0 (log.length : Int) d with
  | false =>
    walk_at "gs"
    exact kN hi H1 k1
  | true =>
    obtain ⟨i, rfl, i0, i1⟩ := intIn_inv hi
    obtain ⟨m, rfl⟩ : ∃ m : Nat, i = (m : Int) := ⟨i.toNat, by omega⟩
    obtain rfl := dp_int hv
    have hm : m ≤ log.length := by omega
    walk_at "gs"
    have ek : H1 a = some (.ins C dx fs) := k1.at_ e List.not_mem_nil
    have e2k : H1 pd = some (.lst ds) := k1.at_ e2 List.not_mem_nil
    refine g_xFld ek T.cl T.nS l3 ?_
    walk_at "gs"
    refine g_xFld ek T.cl T.nS l3 ?_
    walk_at "gs"
    intro ps H2 np k2 x2
    have hcut : cutV ds (some ((ds.length : Int) - (m : Int))) none = ds.drop (log.length - m) := by
      rw [← cutV_drop]
      congr 2
      omega
    rw [hcut] at x2
    have td : TdA K H2 (ds.drop (log.length - m)) ((log.drop (log.length - m)).map Stp.dat) := by
      rw [List.map_drop]
      exact (k2.tdA (k1.tdA t2)).drop _
    have hcd : cnts (log.drop (log.length - m)) ≤ cnts log := by
      have := cnts_app (log.take (log.length - m)) (log.drop (log.length - m))
      rw [List.take_append_drop] at this
      omega
    walk_at "gs"
    intro pt H3 npt k3 x3
    walk_at "gs"
    refine ap_allPlain (SqT.of x3) (k3.tdA td) (by omega) fun q ws H4 nq k4 e4 t4 => ?_
    walk_at "gs"
    have hw := t4.length
    rw [List.length_map, flat_len] at hw
    have kk : Kp [] H H4 := k1.trans (k2.trans (k3.trans k4))
    refine g_both (fun c => kL m rfl hm (by omega) H4 kk) (fun c => ?_)
    have hc : cnts (log.drop (log.length - m)) ≤ 5 := by omega
    walk_at "gs"
    have e5 : H4 a = some (.ins C dx fs) := kk.at_ e List.not_mem_nil
    refine g_xFld e5 T.cl T.nW l1 ?_
    walk_at "gs"
    rw [vI_length]
    refine ap_script (n := s.length) (l := log.drop (log.length - m)) (.tup (SqT.of (k4.at_ x3 List.not_mem_nil)) (k4.tdA (k3.tdA td))) (wk.ok.drop _) hc wk.n1 wk.n3 fun mo H5 nmo k5 so => ?_
    exact kR m rfl hm hc mo H5 (kk.trans k5)
def spLMade (K : PySem.W.Frag) : Sp := fun vs H Q _ => ∃ (v : V) (d : PyData), vs = [v] ∧ Dp K H v d ∧ Sz1 d ∧ NoSz d ∧ ∀ H', Kp [] H H' → Q (.bl true) H'
theorem ok_law_made {C IS WE : Addr} (F : Fun K "_law_made" "_law_made" s_law_made f fd) (N : Nm mg) (x_InvalidSizes : Rz K P mg "InvalidSizes" IS) (v_WheelError : Gc mg "WheelError" (.ref WE)) (ie : IsE K IS WE) (x_Walk : Mak (L2.CX P w) P w K mg base 3 "Walk" C (spWInitX K C IS)) : FnOk P w K mg base CX0 5 f fd ["_law_sizes"] (spLMade K) := by
  have m_isinstance := N.isinstance
  refine F.ok sc_law_made (fun vs H Q E h => ?_) (fun cdv A outer s H vs Q E hr h => ?_)
  · obtain ⟨_, _, rfl, _⟩ := h
    rfl
  obtain ⟨v, d, rfl, hv, hz, hn, k⟩ := h
  refine ⟨_, (pss_cons (ps_set (i := 1) sc_law_made.nd rfl (by first | exact Or.inl rfl | exact Or.inr rfl) pe_bl)
      (pss_cons (ps_try_mix rfl rfl takes0 (fun W pn xe tk po => (pss_one (ps_expr (pe_mkX x_Walk hr (by first | decide | omega) (by rfl) tk (pa_cons (pv 0) pa_nil))))) (.named (i := 2) sc_law_made.nd rfl rfl ⟨rfl, by decide, .inl x_InvalidSizes.nm⟩ (fun a oe cls d pn hz hf => (pss_one (ps_set (i := 1) sc_law_made.nd rfl (by first | exact Or.inl rfl | exact Or.inr rfl) (pe_callB (cr_isX hz hf) (by rfl) m_isinstance (by decide +kernel) (pa_cons (pv 2) (pa_cons (pe_g (by rfl) v_WheelError) pa_nil)))))) .nil))
      (pss_one (ps_ret (pv 1))))), ?_⟩
  try dsimp only [nox_K]
  walk_at "gs"
  refine g_xMk fun x dx H2 nx k2 e2 => ⟨x, dx, v, d, rfl, e2, k2.dp hv, hz, hn, fun H3 k3 => ?_⟩
  refine mix_here x_InvalidSizes.exm fun e ne => ?_
  dsimp only [asC]
  walk_at "gs"
  refine g_isXW ie ?_
  walk_at "gs"
  exact k H3 (k2.trans k3)
def spLRefW (K : PySem.W.Frag) (C : Addr) : Sp := fun vs H Q _ => ∃ (a : Addr) (ps : List Addr) (s : List Int) (log gone : List Stp) (v : V) (d : PyData), vs = [.ref a, v] ∧ Wlk K C H a ps s log gone ∧ Dp K H v d ∧ SeqAt.shaped d = true ∧ Sz2 d ∧ stepD s.length d = false ∧
  ∀ (p : Addr) (H' : Hp), Kp [] H H' → H' p = some (.lst [.non]) → Q (.ref p) H'
theorem ok_law_refusedW {C IT : Addr} (F : Fun K "_law_refused" "_law_refused" s_law_refused f fd) (x_InvalidSteps : RzF K P mg "InvalidSteps" "index" IT) (x_Walk_do : Met (L2.CX P w) P w K mg base 6 C "do" (spWDoX K C IT)) : FnOk P w K mg base CX0 7 f fd ["_law_walk", "_law_step_here"] (spLRefW K C) := by
  refine F.ok sc_law_refused (fun vs H Q E h => ?_) (fun cdv A outer s H vs Q E hr h => ?_)
  · obtain ⟨_, _, _, _, _, _, _, rfl, _⟩ := h
    rfl
  obtain ⟨a, ps, s, log, gone, v, d, rfl, wk, hv, sh, sz, nd, k⟩ := h
  refine ⟨_, (pss_cons (ps_set (i := 2) sc_law_refused.nd rfl (by first | exact Or.inl rfl | exact Or.inr rfl) pe_non)
      (pss_cons (ps_try_mix rfl rfl takes0 (fun W pn xe tk po => (pss_one (ps_expr (pe_meX x_Walk_do hr (by decide) tk (pv 0) (pa_cons (pv 1) pa_nil))))) (.named (i := 3) sc_law_refused.nd rfl rfl ⟨rfl, by decide, .inl x_InvalidSteps.nm⟩ (fun a oe cls d pn hz hf => (pss_one (ps_set (i := 2) sc_law_refused.nd rfl (by first | exact Or.inl rfl | exact Or.inr rfl) (pe_lst (pa_cons (pe_xf x_InvalidSteps.xf x_InvalidSteps.hno hz hf (pv 3)) pa_nil))))) .nil))
      (pss_one (ps_ret (pv 2))))), ?_⟩
  try dsimp only [nox_K]
  walk_at "gs"
  refine g_xMeW wk (fun _ nm => nm.2.1) ?_
  walk_at "gs"
  refine ⟨a, ps, s, log, gone, v, d, rfl, wk, hv, sh, sz, nd, fun dx H1 k1 e1 => ?_⟩
  refine mix_here x_InvalidSteps.exm fun e ne => ?_
  dsimp only [asC]
  walk_at "gs"
  refine g_xXf e1 ?_
  walk_at "gs"
  intro p H2 np k2 e2
  walk_at "gs"
  exact k p H2 (k1.trans k2) e2
def spLScr (K : PySem.W.Frag) (C : Addr) : Sp := fun vs H Q _ => ∃ (a : Addr) (ps : List Addr) (s : List Int) (log gone : List Stp) (v : V) (d : PyData), vs = [.ref a, v] ∧ Wlk K C H a ps s log gone ∧ Dp K H v d ∧ log.length ≤ 300 ∧ cnts log ≤ 1000 ∧
  (intIn 0 (log.length : Nat) d = false → ∀ H', Kp [] H H' → Q (.str "number") H') ∧ (∀ m : Nat, d = .int m → m ≤ log.length → 5 < cnts (log.drop (log.length - m)) → ∀ H', Kp [] H H' → Q (.str "long") H') ∧
  (∀ m : Nat, d = .int m → m ≤ log.length → cnts (log.drop (log.length - m)) ≤ 5 → ∀ (H' : Hp), Kp [] H H' → Q .non H')
theorem ok_law_script {C IN TL : Addr} (F : Fun K "_law_script" "_law_script" s_law_script f fd) (x_InvalidNumber : Rz K P mg "InvalidNumber" IN) (x_TooLong : Rz K P mg "TooLong" TL) (ne : PySem.W.subIn K (.ref TL) (.ref IN) = some false) (x_Walk_script : Met (L2.CX P w) P w K mg base 7 C "script" (spWScriptX K C IN TL)) : FnOk P w K mg base CX0 8 f fd ["_law_walk", "_law_many_here"] (spLScr K C) := by
  refine F.ok sc_law_script (fun vs H Q E h => ?_) (fun cdv A outer s H vs Q E hr h => ?_)
  · obtain ⟨_, _, _, _, _, _, _, rfl, _⟩ := h
    rfl
  obtain ⟨a, ps, s, log, gone, v, d, rfl, wk, hv, hz, hcn, kN, kL, kR⟩ := h
  refine ⟨_, (pss_cons (ps_set (i := 2) sc_law_script.nd rfl (by first | exact Or.inl rfl | exact Or.inr rfl) pe_non)
      (pss_cons (ps_try_mix rfl rfl takes0 (fun W pn xe tk po => (pss_one (ps_expr (pe_meX x_Walk_script hr (by decide) tk (pv 0) (pa_cons (pv 1) pa_nil))))) (.bare ⟨rfl, by decide, .inl x_InvalidNumber.nm⟩ (fun a oe cls d pn hz hf => (pss_one (ps_set (i := 2) sc_law_script.nd rfl (by first | exact Or.inl rfl | exact Or.inr rfl) pe_str))) (.bare ⟨rfl, by decide, .inl x_TooLong.nm⟩ (fun a oe cls d pn hz hf => (pss_one (ps_set (i := 2) sc_law_script.nd rfl (by first | exact Or.inl rfl | exact Or.inr rfl) pe_str))) .nil)))
      (pss_one (ps_ret (pv 2))))), ?_⟩
  try dsimp only [nox_K]
  walk_at "gs"
  refine g_xMeW wk (fun _ nm => nm.2.2.2.2) ?_
  walk_at "gs"
  refine ⟨a, ps, s, log, gone, v, d, rfl, wk, hv, hz, hcn, fun c H1 k1 => ?_, fun m e1 e2 e3 H1 k1 => ?_, fun m e1 e2 e3 p H1 k1 => ?_⟩
  · refine mix_here x_InvalidNumber.exm fun e ne => ?_
    dsimp only [asC]
    walk_at "gs"
    exact kN c H1 k1
  · refine mix_next (x_InvalidNumber.exmAt ne) (mix_here x_TooLong.exm fun e ne => ?_)
    dsimp only [asC]
    walk_at "gs"
    exact kL m e1 e2 e3 H1 k1
  · walk_at "gs"
    exact kR m e1 e2 e3 H1 k1
def spManyL (K : PySem.W.Frag) : Sp := fun vs H Q _ => ∃ (a : Addr) (xs : List V) (l : List Stp), vs = [.ref a] ∧ H a = some (.lst xs) ∧ TdA K H xs (l.map Stp.dat) ∧ l.length ≤ 1000 ∧ ∀ (H' : Hp), Kp [] H H' → Q (.int (cnts l)) H'
theorem ok_manyL (F : Fun K "_law_many" "_law_many" s_law_many f fd) (N : Nm mg) : FnOk P w K mg base CX0 1 f fd ["_law_steps"] (spManyL K) := by
  have m_len := N.len
  have m_sum := N.sum
  refine F.ok sc_law_many (fun vs H Q E h => ?_) (fun cdv A outer s H vs Q E hr h => ?_)
  · obtain ⟨_, _, _, rfl, _⟩ := h
    rfl
  obtain ⟨a, xs, l, rfl, hS, hT, hl, k⟩ := h
  refine ⟨_, (pss_one (ps_ret (pe_callB (cr_sumK (K := K) (by rfl)) (by rfl) m_sum (by decide +kernel) (pa_cons (pe_lc (own := [("_law_step_here", 1)]) (tt := tYes) (by rfl) sc_law_many.nd (pi_listK (K := K) (pv 0)) (blkOk_by (own := [("_law_step_here", 1)]) (N := n_law_many) (sc := defScope s_law_many) (by decide +kernel)) (fun _ _ _ _ _ => (pg_name (i := 1) sc_law_many.nd rfl (by first | exact Or.inl rfl | exact Or.inr rfl))) (fun _ _ _ _ _ => pts_nil) (fun _ _ _ _ _ => (pe_ifExp (pt_cmpR op_eq (pe_ix (ix_tupK (K := K)) (pv 1) pe_int (fun _ _ => rfl)) pe_str (nomark _)) (pe_op op_add (pe_op op_add pe_int (pe_callB (w_lenK (K := K)) (by rfl) m_len (by decide +kernel) (pa_cons (pe_ix (ix_tupK (K := K)) (pv 1) pe_int (fun _ _ => rfl)) pa_nil))) (pe_callB (w_lenK (K := K)) (by rfl) m_len (by decide +kernel) (pa_cons (pe_ix (ix_tupK (K := K)) (pv 1) pe_int (fun _ _ => rfl)) pa_nil))) pe_int))) pa_nil)))), ?_⟩
  try dsimp only [nox_K]
  walk_at "gs"
  refine g_compL (xs := xs) (fun D i acc H' => Kp [] H H' ∧ acc = (l.take i).map fun s => V.int s.cnt) (fun D H1 nD k1 => ⟨k1, rfl⟩) (fun D i acc H' _ ⟨k1, _⟩ => SqL.of (k1.at_ hS List.not_mem_nil)) ?_ ?_
  · rintro D i x acc H' nD hx eD ⟨k1, rfl⟩
    have hi : i < l.length := by
      have h1 := (List.getElem?_eq_some_iff.mp hx).1
      have h2 := hT.length
      simp at h2
      omega
    obtain ⟨x', hx', tx⟩ := (k1.tdA hT).get (i := i) (d := l[i].dat) (by simp [hi])
    rw [hx] at hx'
    cases hx'
    have et : (l.take (i + 1)).map (fun s => V.int s.cnt) = (l.take i).map (fun s => V.int s.cnt) ++ [V.int l[i].cnt] := by
      rw [List.take_add_one, List.getElem?_eq_getElem hi, List.map_append]
      rfl
    have hz : ((l.take i).map fun s => V.int s.cnt).length ≤ 1000000 := by
      simp
      omega
    cases e : l[i] with
    | pl p =>
      rw [e] at tx et
      cases p with
      | turn w b kd =>
        obtain ⟨p, rfl, hp⟩ := td_turn tx
        walk_at "gs"
        refine g_xEl eD hz fun H5 k5 e5 => ⟨by walk_at "k", ?_⟩
        rw [et]
        rfl
      | set w b =>
        obtain ⟨p, rfl, hp⟩ := td_set tx
        walk_at "gs"
        refine g_xEl eD hz fun H5 k5 e5 => ⟨by walk_at "k", ?_⟩
        rw [et]
        rfl
    | alike a b f g =>
      rw [e] at tx et
      obtain ⟨p, pf, pg, fs, gs_, rfl, hp, hf, tf, hg, tg⟩ := td_alike tx
      walk_at "gs"
      have l1 := tf.length
      have l2 := tg.length
      rw [List.length_map] at l1 l2
      refine g_xEl eD hz fun H5 k5 e5 => ⟨by walk_at "k", ?_⟩
      rw [et, l1, l2]
      simp [Stp.cnt]
  · rintro D acc H' nD eD ⟨k1, rfl⟩
    have ex : l.take xs.length = l := by
      have h2 := hT.length
      rw [List.length_map] at h2
      rw [h2, List.take_length]
    rw [ex] at eD
    walk_at "gs"
    refine g_sum (ns := l.map fun s => (s.cnt : Int)) (SqL.of (by rw [eD, List.map_map]; rfl)) ?_
    have es : (l.map fun s => (s.cnt : Int)).sum = ((cnts l : Nat) : Int) := by
      clear eD ex k hT hl
      induction l with
      | nil => rfl
      | cons s r ih =>
        rw [List.map_cons, List.sum_cons, ih]
        show (s.cnt : Int) + (cnts r : Int) = ((s.cnt + cnts r : Nat) : Int)
        omega
    rw [es]
    exact k H' k1
end
abbrev s_law : Stmt := topS 43
abbrev n_law : List Str := ["_law_script_here", "_law_h", "_law_odd", "_law_walk", "_law_log", "_law_turn", "_law_is_back", "_law_before", "_law_many_here", "_law_due"]
theorem sc_law : FnScope n_law ["_law_script_here"] (defScope s_law) := ⟨rfl, rfl, rfl, by decide +kernel, rfl, by decide +kernel, by decide +kernel⟩
section
variable {P : Program} {w : World} {K : PySem.W.Frag} {mg : Str → Option Value} {base : Heap} {f : Addr} {fd : FuncData}
def OddS (K : PySem.W.Frag) (H : Hp) (x : V) : Prop := ∃ d, Dp K H x d ∧ Sz1 d ∧ NoSz d
def OddT (K : PySem.W.Frag) (H : Hp) (x : V) : Prop := ∃ d, Dp K H x d ∧ SeqAt.shaped d = true ∧ Sz2 d ∧ stepD 2 d = false
def OddN (n : Nat) (K : PySem.W.Frag) (H : Hp) (x : V) : Prop := ∃ d, Dp K H x d ∧ intIn 0 (n : Nat) d = false
structure W14 (K : PySem.W.Frag) (C : Addr) (H : Hp) (h q a pl : Addr) (ps : List Addr) (log gone : List Stp) (ls : List V) : Prop where
  src : Src H h q
  wk : Wlk K C H a ps [2, 3] log gone
  el : H pl = some (.lst ls)
  tl : TdA K H ls (log.map Stp.dat)
  dis : ∀ x ∈ ps, x ≠ h ∧ x ≠ q ∧ x ≠ pl
  lh : pl ≠ h
  lq : pl ≠ q
theorem W14.k0 {C : Addr} {H H' : Hp} {h q a pl : Addr} {ps : List Addr} {log gone : List Stp} {ls : List V} (w : W14 K C H h q a pl ps log gone ls) (k : Kp [] H H') : W14 K C H' h q a pl ps log gone ls :=
  ⟨k.src w.src List.not_mem_nil List.not_mem_nil, k.wlk w.wk fun _ _ => List.not_mem_nil, k.at_ w.el List.not_mem_nil, k.tdA w.tl, w.dis, w.lh, w.lq⟩
theorem W14.kS {C : Addr} {H H' : Hp} {h q a pl : Addr} {ps : List Addr} {log gone : List Stp} {ls : List V} (w : W14 K C H h q a pl ps log gone ls) (k : Kp [h, q] H H') (S : Src H' h q) : W14 K C H' h q a pl ps log gone ls :=
  ⟨S, k.wlk w.wk fun x hx => notin2 (w.dis x hx).1 (w.dis x hx).2.1, k.at_ w.el (notin2 w.lh w.lq), k.tdA w.tl, w.dis, w.lh, w.lq⟩
theorem sz1_flat {ds : List PyData} (h : (ds.all fun d => match d with | .tuple es => decide (es.length ≤ 1000) | _ => true) = true) : ∀ e ∈ ds, Sz1 e := fun e he es z => by
  have := List.all_eq_true.mp h e he
  rw [z] at this
  exact of_decide_eq_true this
theorem cutV_last (xs : List V) : cutV xs none (some (-1 : Int)) = xs.dropLast := by
  unfold cutV
  rw [HT.sIx_none, List.drop_zero, Nat.sub_zero, List.dropLast_eq_take, List.take_eq_take_iff]
  unfold HT.sIx
  simp
  omega
theorem ok_law {CW : Addr} (F : Fun K "law" "law" s_law f fd) (N : Nm mg) (c_law_mix : Cal CX0 P w K mg base 1 "_law_mix" (spMix K)) (c_law_next : Cal CX0 P w K mg base 1 "_law_next" spNext) (c_law_step : Cal CX0 P w K mg base 4 "_law_step" (spStep K)) (c_law_many : Cal CX0 P w K mg base 1 "_law_many" (spManyL K)) (c_law_alike : Cal CX0 P w K mg base 6 "_law_alike" (spAlike K 6))
    (k_Walk : Mak CX0 P w K mg base 3 "Walk" CW (spWInit K CW)) (q_Walk_undo : Met CX0 P w K mg base 1 CW "undo" (spUndo K CW)) (q_Walk_redo : Met CX0 P w K mg base 6 CW "redo" (spRedo K CW)) (q_Walk_do : Met CX0 P w K mg base 6 CW "do" (spWDo K CW))
    (q_Walk_showing : Prp CX0 P w K mg base 1 CW "showing" (spWShowing K CW)) (q_Walk_log : Prp CX0 P w K mg base 1 CW "log" (spWLog K CW)) (c_law_made : Cal CX0 P w K mg base 5 "_law_made" (spLMade K)) (c_law_refused : Cal CX0 P w K mg base 7 "_law_refused" (spLRefW K CW)) (c_law_script : Cal CX0 P w K mg base 8 "_law_script" (spLScr K CW)) : FnOk P w K mg base CX0 9 f fd ["_law_script_here"] (spLaw K) := by
  have m_len := N.len
  have m_range := N.range
  refine F.ok sc_law (fun vs H Q E h => ?_) (fun cdv A outer s H vs Q E hr h => ?_)
  · obtain ⟨_, _, rfl, _⟩ := h
    rfl
  obtain ⟨a, ns, rfl, hS, hl, k⟩ := h
  refine ⟨_, (pss_cons (ps_set (i := 1) sc_law.nd rfl (by first | exact Or.inl rfl | exact Or.inr rfl) (pe_c c_law_mix hr (by first | decide | omega) (by rfl) (pa_cons (pv 0) (pa_cons pe_int pa_nil))))
      (pss_cons (ps_for PassesOwn.never rfl (pi_listK (K := K) (pe_lst (pa_cons pe_non (pa_cons (pe_tup pa_nil) (pa_cons (pe_tup (pa_cons pe_int pa_nil)) (pa_cons (pe_tup (pa_cons pe_int (pa_cons pe_int (pa_cons pe_int (pa_cons pe_int pa_nil))))) (pa_cons (pe_lst (pa_cons pe_int pa_nil)) (pa_cons (pe_tup (pa_cons pe_bl pa_nil)) (pa_cons (pe_tup (pa_cons pe_int (pa_cons (pe_op op_add (pe_op op_pow pe_int pe_int) pe_int) pa_nil))) (pa_cons pe_str (pa_cons pe_int (pa_cons (pe_tup (pa_cons pe_int (pa_cons pe_non pa_nil))) pa_nil)))))))))))) (pg_name (i := 2) sc_law.nd rfl (by first | exact Or.inl rfl | exact Or.inr rfl)) (pss_one (ps_if (pt_not (pt_val (pe_c c_law_made hr (by first | decide | omega) (by rfl) (pa_cons (pv 2) pa_nil)))) (pss_one (ps_ret pe_bl)) pss_nil)))
      (pss_cons (ps_par (i := 3) (j := 4) (by rfl) sc_law.nd rfl rfl (by decide) rfl rfl (pa_cons (pe_mk k_Walk hr (by first | decide | omega) (by rfl) (pa_cons (pe_tup (pa_cons pe_int (pa_cons pe_int pa_nil))) pa_nil)) (pa_cons (pe_lst pa_nil) pa_nil)) (by rfl))
      (pss_cons (ps_for PassesOwn.never rfl (pi_range1 (by rfl) m_range (pa_cons (pe_c c_law_next hr (by first | decide | omega) (by rfl) (pa_cons (pv 1) (pa_cons pe_int pa_nil))) pa_nil)) (pg_name (i := 5) sc_law.nd rfl (by first | exact Or.inl rfl | exact Or.inr rfl)) (pss_cons (ps_expr (pe_bm PySem.F.plainAttrs_list PySem.F.slot_list_append PySem.F.type_list_append mt_append (pv 4) (pa_cons (pe_c c_law_step hr (by first | decide | omega) (by rfl) (pa_cons (pv 1) (pa_cons pe_int pa_nil))) pa_nil)))
      (pss_one (ps_expr (pe_me q_Walk_do hr (by decide) (pv 3) (pa_cons (pe_ix (ix_listK (K := K)) (pv 4) (pe_un un_neg pe_int) (fun _ _ => rfl)) pa_nil))))))
      (pss_cons (ps_set (i := 6) sc_law.nd rfl (by first | exact Or.inl rfl | exact Or.inr rfl) (pe_me0 q_Walk_undo hr (by decide) (pv 3)))
      (pss_cons (ps_set (i := 4) sc_law.nd rfl (by first | exact Or.inl rfl | exact Or.inr rfl) (pe_slice (sl_listK (K := K)) (pv 4) po_none (po_some (pe_un un_neg pe_int))))
      (pss_cons (ps_set (i := 7) sc_law.nd rfl (by first | exact Or.inl rfl | exact Or.inr rfl) (pe_lst (pa_cons (pe_pr q_Walk_showing hr (by decide) (pv 3) rfl) (pa_cons (pe_pr q_Walk_log hr (by decide) (pv 3) rfl) pa_nil))))
      (pss_cons (ps_for PassesOwn.never rfl (pi_listK (K := K) (pe_lst (pa_cons pe_non (pa_cons (pe_tup pa_nil) (pa_cons (pe_tup (pa_cons pe_str (pa_cons pe_int (pa_cons pe_int pa_nil)))) (pa_cons (pe_tup (pa_cons pe_str (pa_cons pe_int (pa_cons pe_int (pa_cons pe_str pa_nil))))) (pa_cons (pe_lst (pa_cons pe_str (pa_cons pe_int (pa_cons pe_int pa_nil)))) (pa_cons (pe_tup (pa_cons pe_str (pa_cons pe_int (pa_cons pe_int (pa_cons (pe_tup pa_nil) (pa_cons (pe_tup pa_nil) pa_nil)))))) (pa_cons pe_str (pa_cons pe_int pa_nil)))))))))) (pg_name (i := 2) sc_law.nd rfl (by first | exact Or.inl rfl | exact Or.inr rfl)) (pss_one (ps_if (pt_not (pt_val (pe_c c_law_alike hr (by first | decide | omega) (by rfl) (pa_cons (pe_c c_law_refused hr (by first | decide | omega) (by rfl) (pa_cons (pv 3) (pa_cons (pv 2) pa_nil))) (pa_cons (pe_lst (pa_cons pe_non pa_nil)) pa_nil))))) (pss_one (ps_ret pe_bl)) pss_nil)))
      (pss_cons (ps_for PassesOwn.never rfl (pi_listK (K := K) (pe_lst (pa_cons pe_non (pa_cons (pe_un un_neg pe_int) (pa_cons pe_bl (pa_cons pe_str (pa_cons (pe_op op_add (pe_callB (w_lenK (K := K)) (by rfl) m_len (by decide +kernel) (pa_cons (pv 4) pa_nil)) pe_int) (pa_cons (pe_tup (pa_cons pe_int pa_nil)) pa_nil)))))))) (pg_name (i := 2) sc_law.nd rfl (by first | exact Or.inl rfl | exact Or.inr rfl)) (pss_one (ps_if (pt_cmpR (op_neDK (K := K) hr) (pe_c c_law_script hr (by first | decide | omega) (by rfl) (pa_cons (pv 3) (pa_cons (pv 2) pa_nil))) pe_str (nomark _)) (pss_one (ps_ret pe_bl)) pss_nil)))
      (pss_cons (ps_for PassesOwn.never rfl (pi_range1 (by rfl) m_range (pa_cons (pe_op op_add (pe_callB (w_lenK (K := K)) (by rfl) m_len (by decide +kernel) (pa_cons (pv 4) pa_nil)) pe_int) pa_nil)) (pg_name (i := 8) sc_law.nd rfl (by first | exact Or.inl rfl | exact Or.inr rfl)) (pss_cons (ps_set (i := 9) sc_law.nd rfl (by first | exact Or.inl rfl | exact Or.inr rfl) (pe_ifExp (pt_cmpR op_gt (pe_c c_law_many hr (by first | decide | omega) (by rfl) (pa_cons (pe_slice (sl_listK (K := K)) (pv 4) (po_some (pe_op op_sub (pe_callB (w_lenK (K := K)) (by rfl) m_len (by decide +kernel) (pa_cons (pv 4) pa_nil)) (pv 8))) po_none) pa_nil)) pe_int (nomark _)) pe_str pe_non))
      (pss_one (ps_if (pt_cmpR (op_neDK (K := K) hr) (pe_c c_law_script hr (by first | decide | omega) (by rfl) (pa_cons (pv 3) (pa_cons (pv 8) pa_nil))) (pv 9) (nomark _)) (pss_one (ps_ret pe_bl)) pss_nil))))
      (pss_one (ps_ret (pe_and (pe_c c_law_alike hr (by first | decide | omega) (by rfl) (pa_cons (pe_lst (pa_cons (pe_pr q_Walk_showing hr (by decide) (pv 3) rfl) (pa_cons (pe_pr q_Walk_log hr (by decide) (pv 3) rfl) pa_nil))) (pa_cons (pv 7) pa_nil))) (pe_and (pe_cmpR (op_eqDK (K := K) hr) (pe_pr q_Walk_log hr (by decide) (pv 3) rfl) (pv 4) (nomark _)) (pe_one (pe_cmpR op_eq (pe_me0 q_Walk_redo hr (by decide) (pv 3)) (pv 6) (nomark _))))))))))))))))), ?_⟩
  try dsimp only [nox_K]
  walk_at "gs"
  refine ap_mix hS hl fun h q H1 nh nq k1 S1 => ?_
  walk_at "gs"
  intro p1 H2 np1 k2 e2
  walk_at "gs"
  intro p2 H3 np2 k3 e3
  walk_at "gs"
  intro p3 H4 np3 k4 e4
  walk_at "gs"
  intro p4 H5 np4 k5 e5
  walk_at "gs"
  intro p5 H6 np5 k6 e6
  walk_at "gs"
  intro p6 H7 np6 k7 e7
  walk_at "gs"
  intro p7 H8 np7 k8 e8
  walk_at "gs"
  intro p8 H9 np8 k9 e9
  have S9 : Src H9 h q := by walk_at "h"
  have odd : ∀ x ∈ [V.non, .ref p1, .ref p2, .ref p3, .ref p4, .ref p5, .ref p6, .str "33", .int 5, .ref p7], OddS K H9 x := by
    have f1 : SqT K H9 p1 [] := by walk_at "h"
    have f2 : SqT K H9 p2 [.int 1] := by walk_at "h"
    have f3 : SqT K H9 p3 [.int 3, .int 3, .int 3, .int 3] := by walk_at "h"
    have f4 : SqL K H9 p4 [.int 3] := SqL.of (by walk_at "h")
    have f5 : SqT K H9 p5 [.bl true] := by walk_at "h"
    have f6 : SqT K H9 p6 [.int 3, .int (10 ^ Int.toNat 30 + 1)] := by walk_at "h"
    have f7 : SqT K H9 p7 [.int 3, .non] := by walk_at "h"
    intro x hx
    simp only [List.mem_cons, List.not_mem_nil, or_false] at hx
    rcases hx with rfl | rfl | rfl | rfl | rfl | rfl | rfl | rfl | rfl | rfl
    · exact ⟨.none, .non, fun _ z => (nomatch z), ⟨by decide +kernel, by decide +kernel, by decide +kernel⟩⟩
    · exact ⟨.tuple [], .tup f1 .nil, fun _ z => by cases z; decide, ⟨by decide +kernel, by decide +kernel, by decide +kernel⟩⟩
    · exact ⟨.tuple [.int 1], .tup f2 (.cons (.int _) .nil), fun _ z => by cases z; decide, ⟨by decide +kernel, by decide +kernel, by decide +kernel⟩⟩
    · exact ⟨.tuple [.int 3, .int 3, .int 3, .int 3], .tup f3 (.cons (.int _) (.cons (.int _) (.cons (.int _) (.cons (.int _) .nil)))), fun _ z => by cases z; decide, ⟨by decide +kernel, by decide +kernel, by decide +kernel⟩⟩
    · exact ⟨.list [.int 3], .lst f4 (.cons (.int _) .nil), fun _ z => (nomatch z), ⟨by decide +kernel, by decide +kernel, by decide +kernel⟩⟩
    · exact ⟨.tuple [.bool true], .tup f5 (.cons (.bl _) .nil), fun _ z => by cases z; decide, ⟨by decide +kernel, by decide +kernel, by decide +kernel⟩⟩
    · exact ⟨.tuple [.int 3, .int (10 ^ Int.toNat 30 + 1)], .tup f6 (.cons (.int _) (.cons (.int _) .nil)), fun _ z => by cases z; decide, ⟨by decide +kernel, by decide +kernel, by decide +kernel⟩⟩
    · exact ⟨.str "33", .str _, fun _ z => (nomatch z), ⟨by decide +kernel, by decide +kernel, by decide +kernel⟩⟩
    · exact ⟨.int 5, .int _, fun _ z => (nomatch z), ⟨by decide +kernel, by decide +kernel, by decide +kernel⟩⟩
    · exact ⟨.tuple [.int 3, .none], .tup f7 (.cons (.int _) (.cons .non .nil)), fun _ z => by cases z; decide, ⟨by decide +kernel, by decide +kernel, by decide +kernel⟩⟩
  clear k1 k2 k3 k4 k5 k6 k7 k8 k9 e2 e3 e4 e5 e6 e7 e8 np1 np2 np3 np4 np5 np6 np7 np8 S1
  walk_at "gs"
  refine g_loopL (xs := [V.non, .ref p1, .ref p2, .ref p3, .ref p4, .ref p5, .ref p6, .str "33", .int 5, .ref p7]) (fun i σ' H' => Kp [] H9 H' ∧ ∃ y2, σ' = [some (.ref a), some (.ref h), y2, none, none, none, none, none, none, none]) ⟨Kp.refl _, _, rfl⟩ (fun i σ' H' _ ⟨k', _⟩ => SqL.of (k'.at_ e9 List.not_mem_nil)) ?_ ?_
  · rintro i x σ' H10 hx ⟨k10, y2, rfl⟩
    obtain ⟨d, dx, dz, dn⟩ := odd x (List.mem_of_getElem? hx)
    walk_at "gs"
    refine ⟨x, d, rfl, k10.dp dx, dz, dn, fun H11 k11 => ?_⟩
    walk_at "gs"
    exact ⟨k10.trans k11, _, rfl⟩
  rintro σ' H10 ⟨k10, y2, rfl⟩
  have S10 : Src H10 h q := by walk_at "h"
  clear odd e9 k10 S9
  walk_at "gs"
  have p30 : (10 : Int) ^ 30 = 1000000000000000000000000000000 := by decide
  have so : SzOk [2, 3] := fun x hx => by
    simp only [List.mem_cons, List.not_mem_nil, or_false] at hx
    rcases hx with rfl | rfl <;> omega
  intro pz H11 npz k11 e11
  walk_at "gs"
  refine ap_walk (s := [2, 3]) (SqT.of e11) so (by decide) (by decide) fun wa ps0 H12 k12 nps wk => ?_
  walk_at "gs"
  intro pl H13 npl k13 e13
  have w13 : W14 K CW H13 h q wa pl ps0 [] [] [] := by
    have S11 : Src H11 h q := by walk_at "h"
    have S12 : Src H12 h q := by walk_at "h"
    exact ⟨k13.src S12 List.not_mem_nil List.not_mem_nil, k13.wlk wk fun _ _ => List.not_mem_nil, e13, .nil, fun x hx => ⟨S11.ne (nps x hx), S11.ne2 (nps x hx), fun z => wk.ne npl (z ▸ hx)⟩, S12.ne npl, S12.ne2 npl⟩
  clear k11 k12 k13 e11 wk e13 S10 npz npl nps
  have S13 := w13.src
  walk_at "gs"
  intro r H14 r0 r1 k14 S14
  have w14 := w13.kS k14 S14
  clear w13 k14 S13 S14
  walk_at "gs"
  refine g_xRng1 (by omega) (by omega) ?_
  refine g_loopR (fun i σ' H' => ∃ ps log ls y5, W14 K CW H' h q wa pl ps log [] ls ∧ log.length ≤ i ∧ (∀ st ∈ log, st.cnt ≤ 3) ∧ σ' = [some (.ref a), some (.ref h), y2, some (.ref wa), some (.ref pl), y5, none, none, none, none]) ⟨_, _, _, _, w14, Nat.le_refl _, (fun _ z => nomatch z), rfl⟩ ?_ ?_
  · rintro i σ' H15 hi ⟨ps, log, ls, y5, w, hll, hc, rfl⟩
    clear w14
    have S15 := w.src
    have el15 := w.el
    walk_at "gs"
    refine ap_step (n := 2) S15 (by decide) (by decide) fun st v H16 sok scn sv k16 S16 => ?_
    have w1 := w.kS k16 S16
    have lls := w1.tl.length
    rw [List.length_map] at lls
    walk_at "gs"
    refine g_append w1.el (by omega) fun H17 k17 e17 => ?_
    walk_at "gs"
    have w2 : Wlk K CW H17 wa ps [2, 3] log [] := k17.wlk w1.wk fun x hx => notin1 (w.dis x hx).2.2
    have S17 : Src H17 h q := k17.src w1.src (notin1 (Ne.symm w.lh)) (notin1 (Ne.symm w.lq))
    refine g_xMeW w2 (fun _ nm => nm.2.1) ?_
    walk_at "gs"
    refine g_ixL (xs := ls ++ [v]) (SqL.of e17) (v := v) (by rw [atI_end (n := ls.length) (by simp)]; simp) ?_
    walk_at "gs"
    refine ap_wdo w2 (k17.td sv) sok (by omega) (by omega) fun p ps2 H18 k18 hps w3 s3 => ?_
    walk_at "gs"
    have npl2 : pl ∉ ps := fun z => (w.dis pl z).2.2 rfl
    have nh2 : h ∉ ps := fun z => (w.dis h z).1 rfl
    have nq2 : q ∉ ps := fun z => (w.dis q z).2.1 rfl
    refine ⟨ps2, log ++ [st], ls ++ [v], _, ⟨k18.src S17 nh2 nq2, w3, k18.at_ e17 npl2, ?_, fun x hx => ?_, w.lh, w.lq⟩, by simp; omega, fun x hx => ?_, rfl⟩
    · rw [List.map_append]
      exact (k18.tdA (k17.tdA w1.tl)).app (.cons (k18.td (k17.td sv)) .nil)
    · rcases hps x hx with z | z
      · exact w.dis x z
      · exact ⟨S17.ne z, S17.ne2 z, (ne_of_none e17 z).symm⟩
    · rcases List.mem_append.mp hx with z | z
      · exact hc x z
      · rw [List.mem_singleton.mp z]
        exact scn
  rintro σ' H15 ⟨ps, log, ls, y5, w, hll, hc, rfl⟩
  clear w14
  have hlog : log.length ≤ 9 := by omega
  walk_at "gs"
  refine g_xMeW w.wk (fun _ nm => nm.2.2.1) ?_
  walk_at "gs"
  refine ap_wundo w.wk (by omega) (by decide) fun H16 k16 w1 => ?_
  have npl2 : pl ∉ ps := fun z => (w.dis pl z).2.2 rfl
  have e16 : H16 pl = some (.lst ls) := k16.at_ w.el npl2
  have t16 : TdA K H16 ls (log.map Stp.dat) := k16.tdA w.tl
  have lls := t16.length
  rw [List.length_map] at lls
  walk_at "gs"
  intro pm H17 npm k17 e17
  rw [cutV_last] at e17
  have t17 : TdA K H17 ls.dropLast (log.dropLast.map Stp.dat) := by
    have := (k17.tdA t16).take (log.length - 1)
    rw [← List.map_take] at this
    rwa [List.dropLast_eq_take, List.dropLast_eq_take, lls]
  have w2 := k17.wlk w1 fun _ _ => List.not_mem_nil
  clear w1 t16 e16 k16 k17 w
  obtain ⟨L, hL⟩ : ∃ L, L = log.dropLast := ⟨_, rfl⟩
  obtain ⟨G, hG⟩ : ∃ G, G = ([] : List Stp) ++ log.getLast?.toList := ⟨_, rfl⟩
  have hGl : G.length ≤ 1000 := by
    rw [hG]
    rcases List.eq_nil_or_concat log with rfl | ⟨l', x, rfl⟩ <;> simp
  have hGe : (!G.isEmpty) = (!log.isEmpty) := by
    rw [hG]
    rcases List.eq_nil_or_concat log with rfl | ⟨l', x, rfl⟩ <;> simp
  have hLl : L.length ≤ 8 := by
    rw [hL, List.length_dropLast]
    omega
  have hLc : ∀ st ∈ L, st.cnt ≤ 3 := fun st z => hc st ((List.dropLast_sublist log).subset (hL ▸ z))
  rw [← hL] at t17 w2
  rw [← hG] at w2
  walk_at "gs"
  refine g_xPrW w2 ?_
  refine ap_wshowing w2 fun p1 H18 k18 s18 => ?_
  walk_at "gs"
  have w3 := k18.wlk w2 fun _ _ => List.not_mem_nil
  refine g_xPrW w3 ?_
  refine ap_wlog w3 (by omega) fun p2 ws H19 np2 k19 e19 t19 => ?_
  walk_at "gs"
  intro pb H20 npb k20 e20
  obtain ⟨D, hD⟩ : ∃ D, D = PyData.list [dInts (shownZ [2, 3] L), .list (L.map Stp.dat)] := ⟨_, rfl⟩
  have lD : Lay 5 D := by
    rw [hD]
    refine Lay.lst fun d hd => ?_
    simp only [List.mem_cons, List.not_mem_nil, or_false] at hd
    rcases hd with rfl | rfl
    · exact (lay_ints _).mono (by decide)
    · refine Lay.lst (k := 3) fun d hd => ?_
      obtain ⟨p, _, rfl⟩ := List.mem_map.mp hd
      exact lay_st p
  have wD : D.weight ≤ 100000 := by
    have z1 := dInts_w ((shownZ_ok so w3.ok).sm so)
    have z2 := wt_sts (by decide) w3.ok
    have z3 := cnts_3 hLc
    rw [shownZ_len] at z1
    rw [hD]
    simp only [PyData.weight, PyData.weightAll, List.length_cons, List.length_nil] at z1 z2 z3 ⊢
    omega
  have dB : Dp K H20 (.ref pb) D := by
    rw [hD]
    exact .lst (SqL.of e20) (.cons (Td.vI (k20.sqT (k19.sqT s18))).dp (.cons (.lst (SqL.of (k20.at_ e19 List.not_mem_nil)) (k20.tdA t19).dp) .nil))
  have w20 : Wlk K CW H20 wa ps [2, 3] L G := (k19.trans k20).wlk w3 fun _ _ => List.not_mem_nil
  have e20' : H20 pm = some (.lst ls.dropLast) := (k18.trans (k19.trans k20)).at_ e17 List.not_mem_nil
  have t20 : TdA K H20 ls.dropLast (L.map Stp.dat) := (k18.trans (k19.trans k20)).tdA t17
  obtain ⟨ms, hms⟩ : ∃ ms, ms = ls.dropLast := ⟨_, rfl⟩
  rw [← hms] at e20' t20
  have hD' := hD
  clear e20 k20 t19 e19 np2 k19 w3 s18 k18 w2 t17 e17 npm npb hD hL hG hll hc lls hms
  walk_at "gs"
  intro q1 H21 nq1 k21 e21
  walk_at "gs"
  intro q2 H22 nq2 k22 e22
  walk_at "gs"
  intro q3 H23 nq3 k23 e23
  walk_at "gs"
  intro q4 H24 nq4 k24 e24
  walk_at "gs"
  intro q5 H25 nq5 k25 e25
  walk_at "gs"
  intro q6 H26 nq6 k26 e26
  walk_at "gs"
  intro q7 H27 nq7 k27 e27
  walk_at "gs"
  intro q8 H28 nq8 k28 e28
  have odd : ∀ x ∈ [V.non, .ref q1, .ref q2, .ref q3, .ref q4, .ref q7, .str "set", .int 5], OddT K H28 x := by
    have f1 : SqT K H28 q1 [] := by walk_at "h"
    have f2 : SqT K H28 q2 [.str "set", .int 2, .int 0] := by walk_at "h"
    have f3 : SqT K H28 q3 [.str "turn", .int 0, .int 0, .str "on"] := by walk_at "h"
    have f4 : SqL K H28 q4 [.str "set", .int 0, .int 0] := SqL.of (by walk_at "h")
    have f5 : SqT K H28 q5 [] := by walk_at "h"
    have f6 : SqT K H28 q6 [] := by walk_at "h"
    have f7 : SqT K H28 q7 [.str "alike", .int 0, .int 2, .ref q5, .ref q6] := by walk_at "h"
    intro x hx
    simp only [List.mem_cons, List.not_mem_nil, or_false] at hx
    rcases hx with rfl | rfl | rfl | rfl | rfl | rfl | rfl | rfl
    · exact ⟨.none, .non, by decide +kernel, fun _ z => (nomatch z), by decide +kernel⟩
    · exact ⟨.tuple [], .tup f1 .nil, by decide +kernel, fun _ z => by cases z; exact ⟨by decide, fun _ y => (nomatch y)⟩, by decide +kernel⟩
    · exact ⟨.tuple [.str "set", .int 2, .int 0], .tup f2 (.cons (.str _) (.cons (.int _) (.cons (.int _) .nil))), by decide +kernel, fun _ z => by cases z; exact ⟨by decide, sz1_flat (by decide +kernel)⟩, by decide +kernel⟩
    · exact ⟨.tuple [.str "turn", .int 0, .int 0, .str "on"], .tup f3 (.cons (.str _) (.cons (.int _) (.cons (.int _) (.cons (.str _) .nil)))), by decide +kernel, fun _ z => by cases z; exact ⟨by decide, sz1_flat (by decide +kernel)⟩, by decide +kernel⟩
    · exact ⟨.list [.str "set", .int 0, .int 0], .lst f4 (.cons (.str _) (.cons (.int _) (.cons (.int _) .nil))), by decide +kernel, fun _ z => (nomatch z), by decide +kernel⟩
    · exact ⟨.tuple [.str "alike", .int 0, .int 2, .tuple [], .tuple []], .tup f7 (.cons (.str _) (.cons (.int _) (.cons (.int _) (.cons (.tup f5 .nil) (.cons (.tup f6 .nil) .nil))))), by decide +kernel, fun _ z => by cases z; exact ⟨by decide, sz1_flat (by decide +kernel)⟩, by decide +kernel⟩
    · exact ⟨.str "set", .str _, by decide +kernel, fun _ z => (nomatch z), by decide +kernel⟩
    · exact ⟨.int 5, .int _, by decide +kernel, fun _ z => (nomatch z), by decide +kernel⟩
  have k2028 : Kp [] H20 H28 := k21.trans (k22.trans (k23.trans (k24.trans (k25.trans (k26.trans (k27.trans k28))))))
  clear k21 k22 k23 k24 k25 k26 k27 k28 e21 e22 e23 e24 e25 e26 e27 nq1 nq2 nq3 nq4 nq5 nq6 nq7 nq8
  have w28 := k2028.wlk w20 fun _ _ => List.not_mem_nil
  have dB28 := k2028.dp dB
  have e28' := k2028.at_ e20' List.not_mem_nil
  have t28 := k2028.tdA t20
  clear k2028 w20 dB e20' t20
  walk_at "gs"
  refine g_loopL (xs := [V.non, .ref q1, .ref q2, .ref q3, .ref q4, .ref q7, .str "set", .int 5]) (fun i σ' H' => Kp [] H28 H' ∧ ∃ y2, σ' = [some (.ref a), some (.ref h), y2, some (.ref wa), some (.ref pm), y5, some (.bl (!log.isEmpty)), some (.ref pb), none, none]) ⟨Kp.refl _, _, rfl⟩ (fun i σ' H' _ ⟨k', _⟩ => SqL.of (k'.at_ e28 List.not_mem_nil)) ?_ ?_
  · rintro i x σ' H29 hx ⟨k29, y2, rfl⟩
    obtain ⟨d, dx, ds, dz, dn⟩ := odd x (List.mem_of_getElem? hx)
    walk_at "gs"
    refine ⟨wa, ps, [2, 3], L, G, x, d, rfl, k29.wlk w28 fun _ _ => List.not_mem_nil, k29.dp dx, ds, dz, dn, fun pr H30 k30 e30 => ?_⟩
    walk_at "gs"
    intro pn H31 npn k31 e31
    walk_at "gs"
    refine ap_alike (.list [.none]) (.lst (SqL.of (k31.at_ e30 List.not_mem_nil)) (.cons .non .nil)) (.lst (SqL.of e31) (.cons .non .nil)) (by decide +kernel) (by decide) (by decide) fun H32 k32 => ?_
    walk_at "gs"
    exact ⟨k29.trans (k30.trans (k31.trans k32)), _, rfl⟩
  rintro σ' H29 ⟨k29, y2, rfl⟩
  have w29 := k29.wlk w28 fun _ _ => List.not_mem_nil
  have dB29 := k29.dp dB28
  have e29 := k29.at_ e28' List.not_mem_nil
  have t29 := k29.tdA t28
  clear k29 w28 dB28 e28' t28 odd e28
  have lms := t29.length
  rw [List.length_map] at lms
  have cL : cnts L ≤ 1000 := by
    have := cnts_3 hLc
    omega
  walk_at "gs"
  intro q1 H30 nq1 k30 e30
  walk_at "gs"
  intro q2 H31 nq2 k31 e31
  rw [lms] at e31
  have odd : ∀ x ∈ [V.non, .int (-1), .bl true, .str "1", .int ((L.length : Int) + 1), .ref q1], OddN L.length K H31 x := by
    have f1 : SqT K H31 q1 [.int 0] := by walk_at "h"
    intro x hx
    simp only [List.mem_cons, List.not_mem_nil, or_false] at hx
    rcases hx with rfl | rfl | rfl | rfl | rfl | rfl
    · exact ⟨.none, .non, rfl⟩
    · exact ⟨.int (-1), .int _, by simp [intIn]⟩
    · exact ⟨.bool true, .bl _, rfl⟩
    · exact ⟨.str "1", .str _, rfl⟩
    · exact ⟨.int ((L.length : Int) + 1), .int _, by simp [intIn]; omega⟩
    · exact ⟨.tuple [.int 0], .tup f1 (.cons (.int _) .nil), rfl⟩
  have w31 := (k30.trans k31).wlk w29 fun _ _ => List.not_mem_nil
  have dB31 := (k30.trans k31).dp dB29
  have e31' := (k30.trans k31).at_ e29 List.not_mem_nil
  have t31 := (k30.trans k31).tdA t29
  clear k30 k31 e30 nq1 nq2 w29 dB29 e29 t29
  walk_at "gs"
  refine g_loopL (xs := [V.non, .int (-1), .bl true, .str "1", .int ((L.length : Int) + 1), .ref q1]) (fun i σ' H' => Kp [] H31 H' ∧ ∃ y2, σ' = [some (.ref a), some (.ref h), y2, some (.ref wa), some (.ref pm), y5, some (.bl (!log.isEmpty)), some (.ref pb), none, none]) ⟨Kp.refl _, _, rfl⟩ (fun i σ' H' _ ⟨k', _⟩ => SqL.of (k'.at_ e31 List.not_mem_nil)) ?_ ?_
  · rintro i x σ' H32 hx ⟨k32, y2, rfl⟩
    obtain ⟨d, dx, dn⟩ := odd x (List.mem_of_getElem? hx)
    walk_at "gs"
    refine ⟨wa, ps, [2, 3], L, G, x, d, rfl, k32.wlk w31 fun _ _ => List.not_mem_nil, k32.dp dx, by omega, cL, fun _ H33 k33 => ?_, fun m z => ?_, fun m z => ?_⟩
    · walk_at "gs"
      refine g_rNeDp (d := .str "number") (e := .str "number") (Dp.str _) (Dp.str _) (by decide +kernel) (by decide +kernel) ?_
      walk_at "gs"
      exact ⟨k32.trans k33, _, rfl⟩
    · rw [z] at dn
      intro hm
      simp only [intIn, Bool.and_eq_false_iff, decide_eq_false_iff_not] at dn
      omega
    · rw [z] at dn
      intro hm
      simp only [intIn, Bool.and_eq_false_iff, decide_eq_false_iff_not] at dn
      omega
  rintro σ' H32 ⟨k32, y2, rfl⟩
  have w32 := k32.wlk w31 fun _ _ => List.not_mem_nil
  have dB32 := k32.dp dB31
  have e32 := k32.at_ e31' List.not_mem_nil
  have t32 := k32.tdA t31
  clear k32 w31 dB31 e31' t31 odd e31
  walk_at "gs"
  rw [lms]
  refine g_xRng1 (by omega) (by omega) ?_
  refine g_loopR (fun i σ' H' => Kp [] H32 H' ∧ ∃ y8 y9, σ' = [some (.ref a), some (.ref h), y2, some (.ref wa), some (.ref pm), y5, some (.bl (!log.isEmpty)), some (.ref pb), y8, y9]) ⟨Kp.refl _, _, _, rfl⟩ ?_ ?_
  · rintro i σ' H33 hi ⟨k33, y8, y9, rfl⟩
    have hi2 : i ≤ L.length := by omega
    have e33 := k33.at_ e32 List.not_mem_nil
    have t33 := k33.tdA t32
    have w33 := k33.wlk w32 fun _ _ => List.not_mem_nil
    rw [show (0 : Int) + (i : Int) = (i : Int) by omega]
    walk_at "gs"
    intro p1 H34 np1 k34 e34
    have hcut : cutV ms (some ((ms.length : Int) - (i : Int))) none = ms.drop (L.length - i) := by
      rw [← cutV_drop]
      congr 2
      omega
    rw [hcut] at e34
    walk_at "gs"
    refine ⟨p1, _, L.drop (L.length - i), rfl, e34, by rw [List.map_drop]; exact (k34.tdA t33).drop _, by simp; omega, fun H35 k35 => ?_⟩
    walk_at "gs"
    have w35 := (k34.trans k35).wlk w33 fun _ _ => List.not_mem_nil
    have kk : Kp [] H32 H35 := k33.trans (k34.trans k35)
    clear k33 k34 k35 e33 t33 w33 e34 np1
    refine g_both (fun c => ?_) (fun c => ?_)
    · walk_at "gs"
      refine ⟨wa, ps, [2, 3], L, G, .int (i : Int), .int (i : Int), rfl, w35, .int _, by omega, cL, fun z => ?_, fun m z z1 z2 H36 k36 => ?_, fun m z z1 z2 => ?_⟩
      · simp only [intIn, Bool.and_eq_false_iff, decide_eq_false_iff_not] at z
        omega
      · walk_at "gs"
        refine g_rNeDp (d := .str "long") (e := .str "long") (Dp.str _) (Dp.str _) (by decide +kernel) (by decide +kernel) ?_
        walk_at "gs"
        exact ⟨kk.trans k36, _, _, rfl⟩
      · obtain rfl : i = m := by have := PyData.int.inj z; omega
        exact absurd c (by omega)
    · walk_at "gs"
      refine ⟨wa, ps, [2, 3], L, G, .int (i : Int), .int (i : Int), rfl, w35, .int _, by omega, cL, fun z => ?_, fun m z z1 z2 => ?_, fun m z z1 z2 H36 k36 => ?_⟩
      · simp only [intIn, Bool.and_eq_false_iff, decide_eq_false_iff_not] at z
        omega
      · obtain rfl : i = m := by have := PyData.int.inj z; omega
        exact absurd (show (cnts (L.drop (L.length - i)) : Int) > 5 by omega) c
      · walk_at "gs"
        refine g_rNeDp (d := .none) (e := .none) Dp.non Dp.non (by decide +kernel) (by decide +kernel) ?_
        walk_at "gs"
        exact ⟨kk.trans k36, _, _, rfl⟩
  rintro σ' H33 ⟨k33, y8, y9, rfl⟩
  have w33 := k33.wlk w32 fun _ _ => List.not_mem_nil
  have dB33 := k33.dp dB32
  have e33 := k33.at_ e32 List.not_mem_nil
  have t33 := k33.tdA t32
  clear k33 w32 dB32 e32 t32
  walk_at "gs"
  refine g_xPrW w33 ?_
  refine ap_wshowing w33 fun p1 H34 k34 s34 => ?_
  walk_at "gs"
  have w34 := k34.wlk w33 fun _ _ => List.not_mem_nil
  refine g_xPrW w34 ?_
  refine ap_wlog w34 (by omega) fun p2 ws2 H35 np2 k35 e35 t35 => ?_
  walk_at "gs"
  intro p3 H36 np3 k36 e36
  walk_at "gs"
  have dA : Dp K H36 (.ref p3) D := by
    rw [hD']
    exact .lst (SqL.of e36) (.cons (Td.vI (k36.sqT (k35.sqT s34))).dp (.cons (.lst (SqL.of (k36.at_ e35 List.not_mem_nil)) (k36.tdA t35).dp) .nil))
  have k3336 : Kp [] H33 H36 := k34.trans (k35.trans k36)
  refine ap_alike D dA (k3336.dp dB33) (lD.sh (by decide)) (by have := lD.2; omega) wD fun H37 k37 => ?_
  have k3337 := k3336.trans k37
  have w37 := k3337.wlk w33 fun _ _ => List.not_mem_nil
  have e37 := k3337.at_ e33 List.not_mem_nil
  have t37 := k3337.tdA t33
  clear k34 k35 k36 k37 k3336 k3337 dA s34 e35 t35 e36 np2 np3 w34 w33 e33 t33
  walk_at "gs"
  refine g_xPrW w37 ?_
  refine ap_wlog w37 (by omega) fun p4 ws4 H38 np4 k38 e38 t38 => ?_
  walk_at "gs"
  refine g_rEqDp (d := .list (L.map Stp.dat)) (e := .list (L.map Stp.dat)) (.lst (SqL.of e38) t38.dp) (.lst (SqL.of (k38.at_ e37 List.not_mem_nil)) (k38.tdA t37).dp) (sh_list L) (sh_list L) ?_
  rw [SeqAt.eqv_refl _ (show (PyData.list (L.map Stp.dat)).canLay0 = true from (Lay.lst (k := 3) fun d hd => by obtain ⟨p, _, rfl⟩ := List.mem_map.mp hd; exact lay_st p).1)]
  walk_at "gs"
  have w38 := k38.wlk w37 fun _ _ => List.not_mem_nil
  refine g_xMeW w38 (fun _ nm => nm.2.2.2.1) ?_
  walk_at "gs"
  refine ap_wredo w38 (by omega) hGl fun H39 k39 w39 => ?_
  rw [hGe]
  walk_at "gs"
  have e9 : (decide ((V.bl (!log.isEmpty)) = V.bl (!log.isEmpty))) = true := decide_eq_true rfl
  simp only [e9]
  exact k H39
end
theorem all_mk {P : Program} {w : World} {K : PySem.W.Frag} {h : Heap} {mg : Str → Option Value} {fa : Addr} (X : K.In h) (G : h.Ns mainGlobals mg) (hfa : mg "law" = some (.ref fa))
    {C : Addr} {CW : Addr} {E_InvalidNumber fI_InvalidNumber cc_InvalidNumber cda_InvalidNumber N_InvalidNumber : Addr} {nm_InvalidNumber q_InvalidNumber : Str} {bs_InvalidNumber bm_InvalidNumber sub_InvalidNumber : List Value} {hd_InvalidNumber ab_InvalidNumber : Bool} {sn_InvalidNumber : List Str} {col_InvalidNumber : Option Bool} {dd_InvalidNumber od_InvalidNumber an_InvalidNumber cdd_InvalidNumber cld_InvalidNumber : Option Addr} {k0_InvalidNumber k1_InvalidNumber k2_InvalidNumber k3_InvalidNumber k5_InvalidNumber : Option Value} {oc_InvalidNumber kV_InvalidNumber dc_InvalidNumber pm_InvalidNumber ct_InvalidNumber ccl_InvalidNumber cl_InvalidNumber : Value} {sl_InvalidNumber ccs_InvalidNumber csl_InvalidNumber : Array (Option Value)} {vs_InvalidNumber : Array Value} {file_InvalidNumber : Str} {tf_InvalidNumber : Tok} {E_InvalidSizes fI_InvalidSizes cc_InvalidSizes cda_InvalidSizes N_InvalidSizes : Addr} {nm_InvalidSizes q_InvalidSizes : Str} {bs_InvalidSizes bm_InvalidSizes sub_InvalidSizes : List Value} {hd_InvalidSizes ab_InvalidSizes : Bool} {sn_InvalidSizes : List Str} {col_InvalidSizes : Option Bool} {dd_InvalidSizes od_InvalidSizes an_InvalidSizes cdd_InvalidSizes cld_InvalidSizes : Option Addr} {k0_InvalidSizes k1_InvalidSizes k2_InvalidSizes k3_InvalidSizes k5_InvalidSizes : Option Value} {oc_InvalidSizes kV_InvalidSizes dc_InvalidSizes pm_InvalidSizes ct_InvalidSizes ccl_InvalidSizes cl_InvalidSizes : Value} {sl_InvalidSizes ccs_InvalidSizes csl_InvalidSizes : Array (Option Value)} {vs_InvalidSizes : Array Value} {file_InvalidSizes : Str} {tf_InvalidSizes : Tok} {E_InvalidSteps fI_InvalidSteps cc_InvalidSteps cda_InvalidSteps N_InvalidSteps : Addr} {nm_InvalidSteps q_InvalidSteps : Str} {bs_InvalidSteps bm_InvalidSteps sub_InvalidSteps : List Value} { ab_InvalidSteps : Bool} {sn_InvalidSteps : List Str} {col_InvalidSteps : Option Bool} {dd_InvalidSteps od_InvalidSteps an_InvalidSteps cdd_InvalidSteps cld_InvalidSteps : Option Addr} {k0_InvalidSteps k1_InvalidSteps k2_InvalidSteps k3_InvalidSteps k5_InvalidSteps : Option Value} {oc_InvalidSteps kV_InvalidSteps dc_InvalidSteps pm_InvalidSteps ct_InvalidSteps ccl_InvalidSteps cl_InvalidSteps : Value} {sl_InvalidSteps ccs_InvalidSteps csl_InvalidSteps : Array (Option Value)} {vs_InvalidSteps : Array Value} {file_InvalidSteps : Str} {tf_InvalidSteps : Tok} {E_TooLong fI_TooLong cc_TooLong cda_TooLong N_TooLong : Addr} {nm_TooLong q_TooLong : Str} {bs_TooLong bm_TooLong sub_TooLong : List Value} {hd_TooLong ab_TooLong : Bool} {sn_TooLong : List Str} {col_TooLong : Option Bool} {dd_TooLong od_TooLong an_TooLong cdd_TooLong cld_TooLong : Option Addr} {k0_TooLong k1_TooLong k2_TooLong k3_TooLong k5_TooLong : Option Value} {oc_TooLong kV_TooLong dc_TooLong pm_TooLong ct_TooLong ccl_TooLong cl_TooLong : Value} {sl_TooLong ccs_TooLong csl_TooLong : Array (Option Value)} {vs_TooLong : Array Value} {file_TooLong : Str} {tf_TooLong : Tok} {E_WheelError : Addr} {f_law_next : Addr} {od_law_next an_law_next : Option Addr} {sl_law_next : Array (Option Value)} {oc_law_next kV_law_next dc_law_next pm_law_next cd_law_next ct_law_next : Value} {f_law_mix : Addr} {od_law_mix an_law_mix : Option Addr} {sl_law_mix : Array (Option Value)} {oc_law_mix kV_law_mix dc_law_mix pm_law_mix cd_law_mix ct_law_mix : Value} {f_law_pick : Addr} {od_law_pick an_law_pick : Option Addr} {sl_law_pick : Array (Option Value)} {oc_law_pick kV_law_pick dc_law_pick pm_law_pick cd_law_pick ct_law_pick : Value} {f_law_plain : Addr} {od_law_plain an_law_plain : Option Addr} {sl_law_plain : Array (Option Value)} {oc_law_plain kV_law_plain dc_law_plain pm_law_plain cd_law_plain ct_law_plain : Value} {f_law_step : Addr} {od_law_step an_law_step : Option Addr} {sl_law_step : Array (Option Value)} {oc_law_step kV_law_step dc_law_step pm_law_step cd_law_step ct_law_step : Value} {f_is_integer : Addr} {od_is_integer an_is_integer : Option Addr} {sl_is_integer : Array (Option Value)} {oc_is_integer kV_is_integer dc_is_integer pm_is_integer cd_is_integer ct_is_integer : Value} {f_is_plain : Addr} {od_is_plain an_is_plain : Option Addr} {sl_is_plain : Array (Option Value)} {oc_is_plain kV_is_plain dc_is_plain pm_is_plain cd_is_plain ct_is_plain : Value} {f_are_plain : Addr} {od_are_plain an_are_plain : Option Addr} {sl_are_plain : Array (Option Value)} {oc_are_plain kV_are_plain dc_are_plain pm_are_plain cd_are_plain ct_are_plain : Value} {f_is_step : Addr} {od_is_step an_is_step : Option Addr} {sl_is_step : Array (Option Value)} {oc_is_step kV_is_step dc_is_step pm_is_step cd_is_step ct_is_step : Value} {f_turned : Addr} {od_turned an_turned : Option Addr} {sl_turned : Array (Option Value)} {oc_turned kV_turned dc_turned pm_turned cd_turned ct_turned : Value} {f_ran : Addr} {od_ran an_ran : Option Addr} {sl_ran : Array (Option Value)} {oc_ran kV_ran dc_ran pm_ran cd_ran ct_ran : Value} {f_stepped : Addr} {od_stepped an_stepped : Option Addr} {sl_stepped : Array (Option Value)} {oc_stepped kV_stepped dc_stepped pm_stepped cd_stepped ct_stepped : Value} {f_all_plain : Addr} {od_all_plain an_all_plain : Option Addr} {sl_all_plain : Array (Option Value)} {oc_all_plain kV_all_plain dc_all_plain pm_all_plain cd_all_plain ct_all_plain : Value} {f_Script_init : Addr} {od_Script_init an_Script_init : Option Addr} {sl_Script_init : Array (Option Value)} {oc_Script_init kV_Script_init dc_Script_init pm_Script_init cd_Script_init ct_Script_init : Value} {f_first_of : Addr} {od_first_of an_first_of : Option Addr} {sl_first_of : Array (Option Value)} {oc_first_of kV_first_of dc_first_of pm_first_of cd_first_of ct_first_of : Value} {f_are_sizes : Addr} {od_are_sizes an_are_sizes : Option Addr} {sl_are_sizes : Array (Option Value)} {oc_are_sizes kV_are_sizes dc_are_sizes pm_are_sizes cd_are_sizes ct_are_sizes : Value} {f_Walk_init : Addr} {od_Walk_init an_Walk_init : Option Addr} {sl_Walk_init : Array (Option Value)} {oc_Walk_init kV_Walk_init dc_Walk_init pm_Walk_init cd_Walk_init ct_Walk_init : Value} {f_Walk_go : Addr} {od_Walk_go an_Walk_go : Option Addr} {sl_Walk_go : Array (Option Value)} {oc_Walk_go kV_Walk_go dc_Walk_go pm_Walk_go cd_Walk_go ct_Walk_go : Value} {f_Walk_undo : Addr} {od_Walk_undo an_Walk_undo : Option Addr} {sl_Walk_undo : Array (Option Value)} {oc_Walk_undo kV_Walk_undo dc_Walk_undo pm_Walk_undo cd_Walk_undo ct_Walk_undo : Value} {f_Walk_redo : Addr} {od_Walk_redo an_Walk_redo : Option Addr} {sl_Walk_redo : Array (Option Value)} {oc_Walk_redo kV_Walk_redo dc_Walk_redo pm_Walk_redo cd_Walk_redo ct_Walk_redo : Value} {f_Walk_do : Addr} {od_Walk_do an_Walk_do : Option Addr} {sl_Walk_do : Array (Option Value)} {oc_Walk_do kV_Walk_do dc_Walk_do pm_Walk_do cd_Walk_do ct_Walk_do : Value} {f_Walk_showing : Addr} {od_Walk_showing an_Walk_showing : Option Addr} {sl_Walk_showing : Array (Option Value)} {oc_Walk_showing kV_Walk_showing dc_Walk_showing pm_Walk_showing cd_Walk_showing ct_Walk_showing : Value} {p_Walk_showing : Addr} {r_Walk_showing : List Value} {f_Walk_log : Addr} {od_Walk_log an_Walk_log : Option Addr} {sl_Walk_log : Array (Option Value)} {oc_Walk_log kV_Walk_log dc_Walk_log pm_Walk_log cd_Walk_log ct_Walk_log : Value} {p_Walk_log : Addr} {r_Walk_log : List Value} {f_law_many : Addr} {od_law_many an_law_many : Option Addr} {sl_law_many : Array (Option Value)} {oc_law_many kV_law_many dc_law_many pm_law_many cd_law_many ct_law_many : Value} {f_Walk_script : Addr} {od_Walk_script an_Walk_script : Option Addr} {sl_Walk_script : Array (Option Value)} {oc_Walk_script kV_Walk_script dc_Walk_script pm_Walk_script cd_Walk_script ct_Walk_script : Value} {f_law_made : Addr} {od_law_made an_law_made : Option Addr} {sl_law_made : Array (Option Value)} {oc_law_made kV_law_made dc_law_made pm_law_made cd_law_made ct_law_made : Value} {f_law_refused : Addr} {od_law_refused an_law_refused : Option Addr} {sl_law_refused : Array (Option Value)} {oc_law_refused kV_law_refused dc_law_refused pm_law_refused cd_law_refused ct_law_refused : Value} {f_law_script : Addr} {od_law_script an_law_script : Option Addr} {sl_law_script : Array (Option Value)} {oc_law_script kV_law_script dc_law_script pm_law_script cd_law_script ct_law_script : Value} {f_law_alike : Addr} {od_law_alike an_law_alike : Option Addr} {sl_law_alike : Array (Option Value)} {oc_law_alike kV_law_alike dc_law_alike pm_law_alike cd_law_alike ct_law_alike : Value} {f_law : Addr} {od_law an_law : Option Addr} {sl_law : Array (Option Value)} {oc_law kV_law dc_law pm_law cd_law ct_law : Value} {A_TURNS : Addr} {t1_TURNS t2_TURNS t3_TURNS t4_TURNS n_TURNS : Nat} {so_TURNS : Array (Option Value)} {oo_TURNS : Option Addr} {A_PLACES : Addr} {t1_PLACES t2_PLACES t3_PLACES t4_PLACES n_PLACES : Nat} {so_PLACES : Array (Option Value)} {oo_PLACES : Option Addr} {A_WORDS : Addr} {t1_WORDS t2_WORDS t3_WORDS n_WORDS : Nat} {so_WORDS : Array (Option Value)} {oo_WORDS : Option Addr} {A_TAKEN : Addr} {nT tT1 tT2 tT3 uT1 uT2 uT3 vT1 vT2 vT3 : Nat} {t_MOST_WHEELS : Nat} {t_MOST_STEPS : Nat} {t_LEAST_SIZE : Nat} {t_MOST_SIZE : Nat}
    (z_len : PySem.W.nsIn K mainGlobals "len" = some none)
    (z_range : PySem.W.nsIn K mainGlobals "range" = some none)
    (z_max : PySem.W.nsIn K mainGlobals "max" = some none)
    (z_min : PySem.W.nsIn K mainGlobals "min" = some none)
    (z_int : PySem.W.nsIn K mainGlobals "int" = some none)
    (z_bool : PySem.W.nsIn K mainGlobals "bool" = some none)
    (z_str : PySem.W.nsIn K mainGlobals "str" = some none)
    (z_list : PySem.W.nsIn K mainGlobals "list" = some none)
    (z_tuple : PySem.W.nsIn K mainGlobals "tuple" = some none)
    (z_dict : PySem.W.nsIn K mainGlobals "dict" = some none)
    (z_set : PySem.W.nsIn K mainGlobals "set" = some none)
    (z_abs : PySem.W.nsIn K mainGlobals "abs" = some none)
    (z_sum : PySem.W.nsIn K mainGlobals "sum" = some none)
    (z_all : PySem.W.nsIn K mainGlobals "all" = some none)
    (z_any : PySem.W.nsIn K mainGlobals "any" = some none)
    (z_isinstance : PySem.W.nsIn K mainGlobals "isinstance" = some none)
    (z_zip : PySem.W.nsIn K mainGlobals "zip" = some none)
    (z_enumerate : PySem.W.nsIn K mainGlobals "enumerate" = some none)
    (z_sorted : PySem.W.nsIn K mainGlobals "sorted" = some none)
    (s_aC : PySem.W.nsIn K mainGlobals "Script" = some (some (.ref C)))
    (s_pg : PySem.W.plainGet K C Str.empty = true)
    (s_hd : PySem.W.hasDictIn K C = true)
    (s_po : PySem.W.plainOver K C = true)
    (s_sa : PySem.W.findIn K (.ref C) "__setattr__" = some (some (.builtin "object.__setattr__")))
    (s_mk : PySem.W.makesIn K C = true)
    (s_kc : PySem.W.keepIn K (.ref C) = true)
    (s_n0 : PySem.W.findIn K (.ref C) "many" = some none)
    (s_n1 : PySem.W.findIn K (.ref C) "rows" = some none)
    (w_aC : PySem.W.nsIn K mainGlobals "Walk" = some (some (.ref CW)))
    (w_pg : PySem.W.plainGet K CW Str.empty = true)
    (w_hd : PySem.W.hasDictIn K CW = true)
    (w_po : PySem.W.plainOver K CW = true)
    (w_sa : PySem.W.findIn K (.ref CW) "__setattr__" = some (some (.builtin "object.__setattr__")))
    (w_mk : PySem.W.makesIn K CW = true)
    (w_kc : PySem.W.keepIn K (.ref CW) = true)
    (w_n0 : PySem.W.findIn K (.ref CW) "wide" = some none)
    (w_n1 : PySem.W.findIn K (.ref CW) "rows" = some none)
    (w_n2 : PySem.W.findIn K (.ref CW) "steps_done" = some none)
    (w_n3 : PySem.W.findIn K (.ref CW) "undone" = some none)
    (e_noS : PySem.W.nsIn K mainGlobals "super" = some none)
    (e_opq : PySem.W.nsIn K cStatics "thirdparty.any" = some none)
    (rf_top : (P.main.scope.names.lookup ("super" : Str)).isSome = false)
    (ea_InvalidNumber : PySem.W.nsIn K mainGlobals "InvalidNumber" = some (some (.ref E_InvalidNumber)))
    (ec_InvalidNumber : K.lookup E_InvalidNumber = some (excClassObj nm_InvalidNumber q_InvalidNumber E_InvalidNumber N_InvalidNumber bs_InvalidNumber bm_InvalidNumber hd_InvalidNumber sn_InvalidNumber sub_InvalidNumber ab_InvalidNumber col_InvalidNumber dd_InvalidNumber k0_InvalidNumber k1_InvalidNumber k2_InvalidNumber k3_InvalidNumber k5_InvalidNumber "ValueError.__new__"))
    (rf_bInvalidNumber : PySem.HandSPX.refsVE bm_InvalidNumber = true)
    (ei_InvalidNumber : PySem.W.findIn K (.ref E_InvalidNumber) "__init__" = some (some (.ref fI_InvalidNumber)))
    (et_InvalidNumber : PySem.W.typeIn K (.ref fI_InvalidNumber) = some (.type "function"))
    (el_InvalidNumber : K.lookup fI_InvalidNumber = some ⟨oc_InvalidNumber, od_InvalidNumber, .func (PySem.W.ksFn "__init__" "InvalidNumber.__init__" (defArgs s_InvalidNumber_init) (defBody s_InvalidNumber_init) (defScope s_InvalidNumber_init) .none kV_InvalidNumber dc_InvalidNumber pm_InvalidNumber an_InvalidNumber (.ref cda_InvalidNumber) ct_InvalidNumber cc_InvalidNumber), sl_InvalidNumber⟩)
    (ed_InvalidNumber : K.lookup cda_InvalidNumber = some ⟨ccl_InvalidNumber, cdd_InvalidNumber, .fields vs_InvalidNumber, ccs_InvalidNumber⟩)
    (rf_vInvalidNumber : vs_InvalidNumber[2]? = some (.str file_InvalidNumber tf_InvalidNumber))
    (rf_fInvalidNumber : ((P.main.file : Str) == file_InvalidNumber) = true)
    (ee_InvalidNumber : K.lookup cc_InvalidNumber = some ⟨cl_InvalidNumber, cld_InvalidNumber, .cell (some (.ref E_InvalidNumber)), csl_InvalidNumber⟩)
    (en_InvalidNumber : PySem.W.codeIn K (.ref cda_InvalidNumber) "InvalidNumber.__init__" = true)
    (ks_InvalidNumber : PySem.W.ks_superIn K E_InvalidNumber E_InvalidNumber "__init__" = some (some (.builtin "ValueError.__init__")))
    (ev_InvalidNumber : PySem.W.subIn K (.ref E_InvalidNumber) (.type "ValueError") = some true)
    (em_InvalidNumber : PySem.W.mroIn K E_InvalidNumber (.ref E_InvalidNumber) = some true)
    (ex_InvalidNumber : PySem.W.subIn K (.ref E_InvalidNumber) (.type "BaseException") = some true)
    (ey_InvalidNumber : PySem.W.typeIn K (.ref E_InvalidNumber) = some (.type "type"))
    (ek_InvalidNumber : PySem.W.keepIn K (.ref E_InvalidNumber) = true)
    (ea_InvalidSizes : PySem.W.nsIn K mainGlobals "InvalidSizes" = some (some (.ref E_InvalidSizes)))
    (ec_InvalidSizes : K.lookup E_InvalidSizes = some (excClassObj nm_InvalidSizes q_InvalidSizes E_InvalidSizes N_InvalidSizes bs_InvalidSizes bm_InvalidSizes hd_InvalidSizes sn_InvalidSizes sub_InvalidSizes ab_InvalidSizes col_InvalidSizes dd_InvalidSizes k0_InvalidSizes k1_InvalidSizes k2_InvalidSizes k3_InvalidSizes k5_InvalidSizes "ValueError.__new__"))
    (rf_bInvalidSizes : PySem.HandSPX.refsVE bm_InvalidSizes = true)
    (ei_InvalidSizes : PySem.W.findIn K (.ref E_InvalidSizes) "__init__" = some (some (.ref fI_InvalidSizes)))
    (et_InvalidSizes : PySem.W.typeIn K (.ref fI_InvalidSizes) = some (.type "function"))
    (el_InvalidSizes : K.lookup fI_InvalidSizes = some ⟨oc_InvalidSizes, od_InvalidSizes, .func (PySem.W.ksFn "__init__" "InvalidSizes.__init__" (defArgs s_InvalidSizes_init) (defBody s_InvalidSizes_init) (defScope s_InvalidSizes_init) .none kV_InvalidSizes dc_InvalidSizes pm_InvalidSizes an_InvalidSizes (.ref cda_InvalidSizes) ct_InvalidSizes cc_InvalidSizes), sl_InvalidSizes⟩)
    (ed_InvalidSizes : K.lookup cda_InvalidSizes = some ⟨ccl_InvalidSizes, cdd_InvalidSizes, .fields vs_InvalidSizes, ccs_InvalidSizes⟩)
    (rf_vInvalidSizes : vs_InvalidSizes[2]? = some (.str file_InvalidSizes tf_InvalidSizes))
    (rf_fInvalidSizes : ((P.main.file : Str) == file_InvalidSizes) = true)
    (ee_InvalidSizes : K.lookup cc_InvalidSizes = some ⟨cl_InvalidSizes, cld_InvalidSizes, .cell (some (.ref E_InvalidSizes)), csl_InvalidSizes⟩)
    (en_InvalidSizes : PySem.W.codeIn K (.ref cda_InvalidSizes) "InvalidSizes.__init__" = true)
    (ks_InvalidSizes : PySem.W.ks_superIn K E_InvalidSizes E_InvalidSizes "__init__" = some (some (.builtin "ValueError.__init__")))
    (ev_InvalidSizes : PySem.W.subIn K (.ref E_InvalidSizes) (.type "ValueError") = some true)
    (em_InvalidSizes : PySem.W.mroIn K E_InvalidSizes (.ref E_InvalidSizes) = some true)
    (ex_InvalidSizes : PySem.W.subIn K (.ref E_InvalidSizes) (.type "BaseException") = some true)
    (ey_InvalidSizes : PySem.W.typeIn K (.ref E_InvalidSizes) = some (.type "type"))
    (ek_InvalidSizes : PySem.W.keepIn K (.ref E_InvalidSizes) = true)
    (ea_InvalidSteps : PySem.W.nsIn K mainGlobals "InvalidSteps" = some (some (.ref E_InvalidSteps)))
    (ec_InvalidSteps : K.lookup E_InvalidSteps = some (excClassObj nm_InvalidSteps q_InvalidSteps E_InvalidSteps N_InvalidSteps bs_InvalidSteps bm_InvalidSteps true sn_InvalidSteps sub_InvalidSteps ab_InvalidSteps col_InvalidSteps dd_InvalidSteps k0_InvalidSteps k1_InvalidSteps k2_InvalidSteps k3_InvalidSteps k5_InvalidSteps "ValueError.__new__"))
    (rf_bInvalidSteps : PySem.HandSPX.refsVE bm_InvalidSteps = true)
    (ei_InvalidSteps : PySem.W.findIn K (.ref E_InvalidSteps) "__init__" = some (some (.ref fI_InvalidSteps)))
    (et_InvalidSteps : PySem.W.typeIn K (.ref fI_InvalidSteps) = some (.type "function"))
    (el_InvalidSteps : K.lookup fI_InvalidSteps = some ⟨oc_InvalidSteps, od_InvalidSteps, .func (PySem.W.ksFn "__init__" "InvalidSteps.__init__" (defArgs s_InvalidSteps_init) (defBody s_InvalidSteps_init) (defScope s_InvalidSteps_init) .none kV_InvalidSteps dc_InvalidSteps pm_InvalidSteps an_InvalidSteps (.ref cda_InvalidSteps) ct_InvalidSteps cc_InvalidSteps), sl_InvalidSteps⟩)
    (ed_InvalidSteps : K.lookup cda_InvalidSteps = some ⟨ccl_InvalidSteps, cdd_InvalidSteps, .fields vs_InvalidSteps, ccs_InvalidSteps⟩)
    (rf_vInvalidSteps : vs_InvalidSteps[2]? = some (.str file_InvalidSteps tf_InvalidSteps))
    (rf_fInvalidSteps : ((P.main.file : Str) == file_InvalidSteps) = true)
    (ee_InvalidSteps : K.lookup cc_InvalidSteps = some ⟨cl_InvalidSteps, cld_InvalidSteps, .cell (some (.ref E_InvalidSteps)), csl_InvalidSteps⟩)
    (en_InvalidSteps : PySem.W.codeIn K (.ref cda_InvalidSteps) "InvalidSteps.__init__" = true)
    (ks_InvalidSteps : PySem.W.ks_superIn K E_InvalidSteps E_InvalidSteps "__init__" = some (some (.builtin "ValueError.__init__")))
    (ev_InvalidSteps : PySem.W.subIn K (.ref E_InvalidSteps) (.type "ValueError") = some true)
    (em_InvalidSteps : PySem.W.mroIn K E_InvalidSteps (.ref E_InvalidSteps) = some true)
    (ex_InvalidSteps : PySem.W.subIn K (.ref E_InvalidSteps) (.type "BaseException") = some true)
    (ey_InvalidSteps : PySem.W.typeIn K (.ref E_InvalidSteps) = some (.type "type"))
    (ek_InvalidSteps : PySem.W.keepIn K (.ref E_InvalidSteps) = true)
    (esa_InvalidSteps : PySem.W.findIn K (.ref E_InvalidSteps) "__setattr__" = some (some (.builtin "object.__setattr__")))
    (ega_InvalidSteps : PySem.W.findIn K (.ref E_InvalidSteps) "__getattribute__" = some (some (.builtin "BaseException.__getattribute__")))
    (egg_InvalidSteps : PySem.W.findIn K (.ref E_InvalidSteps) "__getattr__" = some none)
    (egd_InvalidSteps : PySem.W.hasDictIn K E_InvalidSteps = true)
    (egn_InvalidSteps : PySem.W.findIn K (.ref E_InvalidSteps) "index" = some none)
    (ea_TooLong : PySem.W.nsIn K mainGlobals "TooLong" = some (some (.ref E_TooLong)))
    (ec_TooLong : K.lookup E_TooLong = some (excClassObj nm_TooLong q_TooLong E_TooLong N_TooLong bs_TooLong bm_TooLong hd_TooLong sn_TooLong sub_TooLong ab_TooLong col_TooLong dd_TooLong k0_TooLong k1_TooLong k2_TooLong k3_TooLong k5_TooLong "ValueError.__new__"))
    (rf_bTooLong : PySem.HandSPX.refsVE bm_TooLong = true)
    (ei_TooLong : PySem.W.findIn K (.ref E_TooLong) "__init__" = some (some (.ref fI_TooLong)))
    (et_TooLong : PySem.W.typeIn K (.ref fI_TooLong) = some (.type "function"))
    (el_TooLong : K.lookup fI_TooLong = some ⟨oc_TooLong, od_TooLong, .func (PySem.W.ksFn "__init__" "TooLong.__init__" (defArgs s_TooLong_init) (defBody s_TooLong_init) (defScope s_TooLong_init) .none kV_TooLong dc_TooLong pm_TooLong an_TooLong (.ref cda_TooLong) ct_TooLong cc_TooLong), sl_TooLong⟩)
    (ed_TooLong : K.lookup cda_TooLong = some ⟨ccl_TooLong, cdd_TooLong, .fields vs_TooLong, ccs_TooLong⟩)
    (rf_vTooLong : vs_TooLong[2]? = some (.str file_TooLong tf_TooLong))
    (rf_fTooLong : ((P.main.file : Str) == file_TooLong) = true)
    (ee_TooLong : K.lookup cc_TooLong = some ⟨cl_TooLong, cld_TooLong, .cell (some (.ref E_TooLong)), csl_TooLong⟩)
    (en_TooLong : PySem.W.codeIn K (.ref cda_TooLong) "TooLong.__init__" = true)
    (ks_TooLong : PySem.W.ks_superIn K E_TooLong E_TooLong "__init__" = some (some (.builtin "ValueError.__init__")))
    (ev_TooLong : PySem.W.subIn K (.ref E_TooLong) (.type "ValueError") = some true)
    (em_TooLong : PySem.W.mroIn K E_TooLong (.ref E_TooLong) = some true)
    (ex_TooLong : PySem.W.subIn K (.ref E_TooLong) (.type "BaseException") = some true)
    (ey_TooLong : PySem.W.typeIn K (.ref E_TooLong) = some (.type "type"))
    (ek_TooLong : PySem.W.keepIn K (.ref E_TooLong) = true)
    (ea_WheelError : PySem.W.nsIn K mainGlobals "WheelError" = some (some (.ref E_WheelError)))
    (eh_WheelError : PySem.W.hasDictIn K E_WheelError = true)
    (ey_WheelError : PySem.W.typeIn K (.ref E_WheelError) = some (.type "type"))
    (is_hn : PySem.W.specialIn K (.builtin "object.__class__") "__get__" = some (some (.builtin "getset_descriptor.__get__")))
    (is_tk : PySem.W.takesIn K (.builtin "object.__class__") = some true)
    (xg_InvalidSizes : PySem.W.findIn K (.ref E_InvalidSizes) "__getattribute__" = some (some (.builtin "BaseException.__getattribute__")))
    (xk_InvalidSizes : PySem.W.findIn K (.ref E_InvalidSizes) "__getattr__" = some none)
    (xd_InvalidSizes : PySem.W.hasDictIn K E_InvalidSizes = true)
    (xa_InvalidSizes : PySem.W.findIn K (.ref E_InvalidSizes) "__class__" = some (some (.builtin "object.__class__")))
    (xm_InvalidSizes : PySem.W.mroIn K E_InvalidSizes (.type "object") = some true)
    (xs_InvalidSizes : PySem.W.subIn K (.ref E_InvalidSizes) (.ref E_WheelError) = some true)
    (NE_TooLong_InvalidNumber : PySem.W.subIn K (.ref E_TooLong) (.ref E_InvalidNumber) = some false)
    (a_law_next : PySem.W.nsIn K mainGlobals "_law_next" = some (some (.ref f_law_next)))
    (l_law_next : K.lookup f_law_next = some ⟨oc_law_next, od_law_next, .func (PySem.W.fnOf "_law_next" "_law_next" (defArgs s_law_next) (defBody s_law_next) (defScope s_law_next) .none kV_law_next dc_law_next pm_law_next an_law_next cd_law_next ct_law_next), sl_law_next⟩)
    (c_law_next : PySem.W.codeIn K cd_law_next "_law_next" = true)
    (k_law_next : PySem.W.keepIn K (.ref f_law_next) = true)
    (a_law_mix : PySem.W.nsIn K mainGlobals "_law_mix" = some (some (.ref f_law_mix)))
    (l_law_mix : K.lookup f_law_mix = some ⟨oc_law_mix, od_law_mix, .func (PySem.W.fnOf "_law_mix" "_law_mix" (defArgs s_law_mix) (defBody s_law_mix) (defScope s_law_mix) .none kV_law_mix dc_law_mix pm_law_mix an_law_mix cd_law_mix ct_law_mix), sl_law_mix⟩)
    (c_law_mix : PySem.W.codeIn K cd_law_mix "_law_mix" = true)
    (k_law_mix : PySem.W.keepIn K (.ref f_law_mix) = true)
    (a_law_pick : PySem.W.nsIn K mainGlobals "_law_pick" = some (some (.ref f_law_pick)))
    (l_law_pick : K.lookup f_law_pick = some ⟨oc_law_pick, od_law_pick, .func (PySem.W.fnOf "_law_pick" "_law_pick" (defArgs s_law_pick) (defBody s_law_pick) (defScope s_law_pick) .none kV_law_pick dc_law_pick pm_law_pick an_law_pick cd_law_pick ct_law_pick), sl_law_pick⟩)
    (c_law_pick : PySem.W.codeIn K cd_law_pick "_law_pick" = true)
    (k_law_pick : PySem.W.keepIn K (.ref f_law_pick) = true)
    (a_law_plain : PySem.W.nsIn K mainGlobals "_law_plain" = some (some (.ref f_law_plain)))
    (l_law_plain : K.lookup f_law_plain = some ⟨oc_law_plain, od_law_plain, .func (PySem.W.fnOf "_law_plain" "_law_plain" (defArgs s_law_plain) (defBody s_law_plain) (defScope s_law_plain) .none kV_law_plain dc_law_plain pm_law_plain an_law_plain cd_law_plain ct_law_plain), sl_law_plain⟩)
    (c_law_plain : PySem.W.codeIn K cd_law_plain "_law_plain" = true)
    (k_law_plain : PySem.W.keepIn K (.ref f_law_plain) = true)
    (a_law_step : PySem.W.nsIn K mainGlobals "_law_step" = some (some (.ref f_law_step)))
    (l_law_step : K.lookup f_law_step = some ⟨oc_law_step, od_law_step, .func (PySem.W.fnOf "_law_step" "_law_step" (defArgs s_law_step) (defBody s_law_step) (defScope s_law_step) .none kV_law_step dc_law_step pm_law_step an_law_step cd_law_step ct_law_step), sl_law_step⟩)
    (c_law_step : PySem.W.codeIn K cd_law_step "_law_step" = true)
    (k_law_step : PySem.W.keepIn K (.ref f_law_step) = true)
    (a_is_integer : PySem.W.nsIn K mainGlobals "is_integer" = some (some (.ref f_is_integer)))
    (l_is_integer : K.lookup f_is_integer = some ⟨oc_is_integer, od_is_integer, .func (PySem.W.fnOf "is_integer" "is_integer" (defArgs s_is_integer) (defBody s_is_integer) (defScope s_is_integer) .none kV_is_integer dc_is_integer pm_is_integer an_is_integer cd_is_integer ct_is_integer), sl_is_integer⟩)
    (c_is_integer : PySem.W.codeIn K cd_is_integer "is_integer" = true)
    (k_is_integer : PySem.W.keepIn K (.ref f_is_integer) = true)
    (a_is_plain : PySem.W.nsIn K mainGlobals "is_plain" = some (some (.ref f_is_plain)))
    (l_is_plain : K.lookup f_is_plain = some ⟨oc_is_plain, od_is_plain, .func (PySem.W.fnOf "is_plain" "is_plain" (defArgs s_is_plain) (defBody s_is_plain) (defScope s_is_plain) .none kV_is_plain dc_is_plain pm_is_plain an_is_plain cd_is_plain ct_is_plain), sl_is_plain⟩)
    (c_is_plain : PySem.W.codeIn K cd_is_plain "is_plain" = true)
    (k_is_plain : PySem.W.keepIn K (.ref f_is_plain) = true)
    (a_are_plain : PySem.W.nsIn K mainGlobals "are_plain" = some (some (.ref f_are_plain)))
    (l_are_plain : K.lookup f_are_plain = some ⟨oc_are_plain, od_are_plain, .func (PySem.W.fnOf "are_plain" "are_plain" (defArgs s_are_plain) (defBody s_are_plain) (defScope s_are_plain) .none kV_are_plain dc_are_plain pm_are_plain an_are_plain cd_are_plain ct_are_plain), sl_are_plain⟩)
    (c_are_plain : PySem.W.codeIn K cd_are_plain "are_plain" = true)
    (k_are_plain : PySem.W.keepIn K (.ref f_are_plain) = true)
    (a_is_step : PySem.W.nsIn K mainGlobals "is_step" = some (some (.ref f_is_step)))
    (l_is_step : K.lookup f_is_step = some ⟨oc_is_step, od_is_step, .func (PySem.W.fnOf "is_step" "is_step" (defArgs s_is_step) (defBody s_is_step) (defScope s_is_step) .none kV_is_step dc_is_step pm_is_step an_is_step cd_is_step ct_is_step), sl_is_step⟩)
    (c_is_step : PySem.W.codeIn K cd_is_step "is_step" = true)
    (k_is_step : PySem.W.keepIn K (.ref f_is_step) = true)
    (a_turned : PySem.W.nsIn K mainGlobals "turned" = some (some (.ref f_turned)))
    (l_turned : K.lookup f_turned = some ⟨oc_turned, od_turned, .func (PySem.W.fnOf "turned" "turned" (defArgs s_turned) (defBody s_turned) (defScope s_turned) .none kV_turned dc_turned pm_turned an_turned cd_turned ct_turned), sl_turned⟩)
    (c_turned : PySem.W.codeIn K cd_turned "turned" = true)
    (k_turned : PySem.W.keepIn K (.ref f_turned) = true)
    (a_ran : PySem.W.nsIn K mainGlobals "ran" = some (some (.ref f_ran)))
    (l_ran : K.lookup f_ran = some ⟨oc_ran, od_ran, .func (PySem.W.fnOf "ran" "ran" (defArgs s_ran) (defBody s_ran) (defScope s_ran) .none kV_ran dc_ran pm_ran an_ran cd_ran ct_ran), sl_ran⟩)
    (c_ran : PySem.W.codeIn K cd_ran "ran" = true)
    (k_ran : PySem.W.keepIn K (.ref f_ran) = true)
    (a_stepped : PySem.W.nsIn K mainGlobals "stepped" = some (some (.ref f_stepped)))
    (l_stepped : K.lookup f_stepped = some ⟨oc_stepped, od_stepped, .func (PySem.W.fnOf "stepped" "stepped" (defArgs s_stepped) (defBody s_stepped) (defScope s_stepped) .none kV_stepped dc_stepped pm_stepped an_stepped cd_stepped ct_stepped), sl_stepped⟩)
    (c_stepped : PySem.W.codeIn K cd_stepped "stepped" = true)
    (k_stepped : PySem.W.keepIn K (.ref f_stepped) = true)
    (a_all_plain : PySem.W.nsIn K mainGlobals "all_plain" = some (some (.ref f_all_plain)))
    (l_all_plain : K.lookup f_all_plain = some ⟨oc_all_plain, od_all_plain, .func (PySem.W.fnOf "all_plain" "all_plain" (defArgs s_all_plain) (defBody s_all_plain) (defScope s_all_plain) .none kV_all_plain dc_all_plain pm_all_plain an_all_plain cd_all_plain ct_all_plain), sl_all_plain⟩)
    (c_all_plain : PySem.W.codeIn K cd_all_plain "all_plain" = true)
    (k_all_plain : PySem.W.keepIn K (.ref f_all_plain) = true)
    (a_Script_init : PySem.W.findIn K (.ref C) "__init__" = some (some (.ref f_Script_init)))
    (i_Script_init : PySem.W.isFn K (.ref f_Script_init) = true)
    (l_Script_init : K.lookup f_Script_init = some ⟨oc_Script_init, od_Script_init, .func (PySem.W.fnOf "__init__" "Script.__init__" (defArgs s_Script_init) (defBody s_Script_init) (defScope s_Script_init) .none kV_Script_init dc_Script_init pm_Script_init an_Script_init cd_Script_init ct_Script_init), sl_Script_init⟩)
    (c_Script_init : PySem.W.codeIn K cd_Script_init "Script.__init__" = true)
    (k_Script_init : PySem.W.keepIn K (.ref f_Script_init) = true)
    (a_first_of : PySem.W.nsIn K mainGlobals "first_of" = some (some (.ref f_first_of)))
    (l_first_of : K.lookup f_first_of = some ⟨oc_first_of, od_first_of, .func (PySem.W.fnOf "first_of" "first_of" (defArgs s_first_of) (defBody s_first_of) (defScope s_first_of) .none kV_first_of dc_first_of pm_first_of an_first_of cd_first_of ct_first_of), sl_first_of⟩)
    (c_first_of : PySem.W.codeIn K cd_first_of "first_of" = true)
    (k_first_of : PySem.W.keepIn K (.ref f_first_of) = true)
    (a_are_sizes : PySem.W.nsIn K mainGlobals "are_sizes" = some (some (.ref f_are_sizes)))
    (l_are_sizes : K.lookup f_are_sizes = some ⟨oc_are_sizes, od_are_sizes, .func (PySem.W.fnOf "are_sizes" "are_sizes" (defArgs s_are_sizes) (defBody s_are_sizes) (defScope s_are_sizes) .none kV_are_sizes dc_are_sizes pm_are_sizes an_are_sizes cd_are_sizes ct_are_sizes), sl_are_sizes⟩)
    (c_are_sizes : PySem.W.codeIn K cd_are_sizes "are_sizes" = true)
    (k_are_sizes : PySem.W.keepIn K (.ref f_are_sizes) = true)
    (a_Walk_init : PySem.W.findIn K (.ref CW) "__init__" = some (some (.ref f_Walk_init)))
    (i_Walk_init : PySem.W.isFn K (.ref f_Walk_init) = true)
    (l_Walk_init : K.lookup f_Walk_init = some ⟨oc_Walk_init, od_Walk_init, .func (PySem.W.fnOf "__init__" "Walk.__init__" (defArgs s_Walk_init) (defBody s_Walk_init) (defScope s_Walk_init) .none kV_Walk_init dc_Walk_init pm_Walk_init an_Walk_init cd_Walk_init ct_Walk_init), sl_Walk_init⟩)
    (c_Walk_init : PySem.W.codeIn K cd_Walk_init "Walk.__init__" = true)
    (k_Walk_init : PySem.W.keepIn K (.ref f_Walk_init) = true)
    (a_Walk_go : PySem.W.findIn K (.ref CW) "go" = some (some (.ref f_Walk_go)))
    (i_Walk_go : PySem.W.isFn K (.ref f_Walk_go) = true)
    (l_Walk_go : K.lookup f_Walk_go = some ⟨oc_Walk_go, od_Walk_go, .func (PySem.W.fnOf "go" "Walk.go" (defArgs s_Walk_go) (defBody s_Walk_go) (defScope s_Walk_go) .none kV_Walk_go dc_Walk_go pm_Walk_go an_Walk_go cd_Walk_go ct_Walk_go), sl_Walk_go⟩)
    (c_Walk_go : PySem.W.codeIn K cd_Walk_go "Walk.go" = true)
    (k_Walk_go : PySem.W.keepIn K (.ref f_Walk_go) = true)
    (a_Walk_undo : PySem.W.findIn K (.ref CW) "undo" = some (some (.ref f_Walk_undo)))
    (i_Walk_undo : PySem.W.isFn K (.ref f_Walk_undo) = true)
    (l_Walk_undo : K.lookup f_Walk_undo = some ⟨oc_Walk_undo, od_Walk_undo, .func (PySem.W.fnOf "undo" "Walk.undo" (defArgs s_Walk_undo) (defBody s_Walk_undo) (defScope s_Walk_undo) .none kV_Walk_undo dc_Walk_undo pm_Walk_undo an_Walk_undo cd_Walk_undo ct_Walk_undo), sl_Walk_undo⟩)
    (c_Walk_undo : PySem.W.codeIn K cd_Walk_undo "Walk.undo" = true)
    (k_Walk_undo : PySem.W.keepIn K (.ref f_Walk_undo) = true)
    (a_Walk_redo : PySem.W.findIn K (.ref CW) "redo" = some (some (.ref f_Walk_redo)))
    (i_Walk_redo : PySem.W.isFn K (.ref f_Walk_redo) = true)
    (l_Walk_redo : K.lookup f_Walk_redo = some ⟨oc_Walk_redo, od_Walk_redo, .func (PySem.W.fnOf "redo" "Walk.redo" (defArgs s_Walk_redo) (defBody s_Walk_redo) (defScope s_Walk_redo) .none kV_Walk_redo dc_Walk_redo pm_Walk_redo an_Walk_redo cd_Walk_redo ct_Walk_redo), sl_Walk_redo⟩)
    (c_Walk_redo : PySem.W.codeIn K cd_Walk_redo "Walk.redo" = true)
    (k_Walk_redo : PySem.W.keepIn K (.ref f_Walk_redo) = true)
    (a_Walk_do : PySem.W.findIn K (.ref CW) "do" = some (some (.ref f_Walk_do)))
    (i_Walk_do : PySem.W.isFn K (.ref f_Walk_do) = true)
    (l_Walk_do : K.lookup f_Walk_do = some ⟨oc_Walk_do, od_Walk_do, .func (PySem.W.fnOf "do" "Walk.do" (defArgs s_Walk_do) (defBody s_Walk_do) (defScope s_Walk_do) .none kV_Walk_do dc_Walk_do pm_Walk_do an_Walk_do cd_Walk_do ct_Walk_do), sl_Walk_do⟩)
    (c_Walk_do : PySem.W.codeIn K cd_Walk_do "Walk.do" = true)
    (k_Walk_do : PySem.W.keepIn K (.ref f_Walk_do) = true)
    (pa_Walk_showing : PySem.W.findIn K (.ref CW) "showing" = some (some (.ref p_Walk_showing)))
    (pg_Walk_showing : PySem.W.specialIn K (.ref p_Walk_showing) "__get__" = some (some (.builtin "property.__get__")))
    (pt_Walk_showing : PySem.W.takesIn K (.ref p_Walk_showing) = some true)
    (pr_Walk_showing : PySem.W.recIn K p_Walk_showing "property" = some (.ref f_Walk_showing :: r_Walk_showing))
    (l_Walk_showing : K.lookup f_Walk_showing = some ⟨oc_Walk_showing, od_Walk_showing, .func (PySem.W.fnOf "showing" "Walk.showing" (defArgs s_Walk_showing) (defBody s_Walk_showing) (defScope s_Walk_showing) .none kV_Walk_showing dc_Walk_showing pm_Walk_showing an_Walk_showing cd_Walk_showing ct_Walk_showing), sl_Walk_showing⟩)
    (c_Walk_showing : PySem.W.codeIn K cd_Walk_showing "Walk.showing" = true)
    (k_Walk_showing : PySem.W.keepIn K (.ref f_Walk_showing) = true)
    (pa_Walk_log : PySem.W.findIn K (.ref CW) "log" = some (some (.ref p_Walk_log)))
    (pg_Walk_log : PySem.W.specialIn K (.ref p_Walk_log) "__get__" = some (some (.builtin "property.__get__")))
    (pt_Walk_log : PySem.W.takesIn K (.ref p_Walk_log) = some true)
    (pr_Walk_log : PySem.W.recIn K p_Walk_log "property" = some (.ref f_Walk_log :: r_Walk_log))
    (l_Walk_log : K.lookup f_Walk_log = some ⟨oc_Walk_log, od_Walk_log, .func (PySem.W.fnOf "log" "Walk.log" (defArgs s_Walk_log) (defBody s_Walk_log) (defScope s_Walk_log) .none kV_Walk_log dc_Walk_log pm_Walk_log an_Walk_log cd_Walk_log ct_Walk_log), sl_Walk_log⟩)
    (c_Walk_log : PySem.W.codeIn K cd_Walk_log "Walk.log" = true)
    (k_Walk_log : PySem.W.keepIn K (.ref f_Walk_log) = true)
    (a_law_many : PySem.W.nsIn K mainGlobals "_law_many" = some (some (.ref f_law_many)))
    (l_law_many : K.lookup f_law_many = some ⟨oc_law_many, od_law_many, .func (PySem.W.fnOf "_law_many" "_law_many" (defArgs s_law_many) (defBody s_law_many) (defScope s_law_many) .none kV_law_many dc_law_many pm_law_many an_law_many cd_law_many ct_law_many), sl_law_many⟩)
    (c_law_many : PySem.W.codeIn K cd_law_many "_law_many" = true)
    (k_law_many : PySem.W.keepIn K (.ref f_law_many) = true)
    (a_Walk_script : PySem.W.findIn K (.ref CW) "script" = some (some (.ref f_Walk_script)))
    (i_Walk_script : PySem.W.isFn K (.ref f_Walk_script) = true)
    (l_Walk_script : K.lookup f_Walk_script = some ⟨oc_Walk_script, od_Walk_script, .func (PySem.W.fnOf "script" "Walk.script" (defArgs s_Walk_script) (defBody s_Walk_script) (defScope s_Walk_script) .none kV_Walk_script dc_Walk_script pm_Walk_script an_Walk_script cd_Walk_script ct_Walk_script), sl_Walk_script⟩)
    (c_Walk_script : PySem.W.codeIn K cd_Walk_script "Walk.script" = true)
    (k_Walk_script : PySem.W.keepIn K (.ref f_Walk_script) = true)
    (a_law_made : PySem.W.nsIn K mainGlobals "_law_made" = some (some (.ref f_law_made)))
    (l_law_made : K.lookup f_law_made = some ⟨oc_law_made, od_law_made, .func (PySem.W.fnOf "_law_made" "_law_made" (defArgs s_law_made) (defBody s_law_made) (defScope s_law_made) .none kV_law_made dc_law_made pm_law_made an_law_made cd_law_made ct_law_made), sl_law_made⟩)
    (c_law_made : PySem.W.codeIn K cd_law_made "_law_made" = true)
    (k_law_made : PySem.W.keepIn K (.ref f_law_made) = true)
    (a_law_refused : PySem.W.nsIn K mainGlobals "_law_refused" = some (some (.ref f_law_refused)))
    (l_law_refused : K.lookup f_law_refused = some ⟨oc_law_refused, od_law_refused, .func (PySem.W.fnOf "_law_refused" "_law_refused" (defArgs s_law_refused) (defBody s_law_refused) (defScope s_law_refused) .none kV_law_refused dc_law_refused pm_law_refused an_law_refused cd_law_refused ct_law_refused), sl_law_refused⟩)
    (c_law_refused : PySem.W.codeIn K cd_law_refused "_law_refused" = true)
    (k_law_refused : PySem.W.keepIn K (.ref f_law_refused) = true)
    (a_law_script : PySem.W.nsIn K mainGlobals "_law_script" = some (some (.ref f_law_script)))
    (l_law_script : K.lookup f_law_script = some ⟨oc_law_script, od_law_script, .func (PySem.W.fnOf "_law_script" "_law_script" (defArgs s_law_script) (defBody s_law_script) (defScope s_law_script) .none kV_law_script dc_law_script pm_law_script an_law_script cd_law_script ct_law_script), sl_law_script⟩)
    (c_law_script : PySem.W.codeIn K cd_law_script "_law_script" = true)
    (k_law_script : PySem.W.keepIn K (.ref f_law_script) = true)
    (a_law_alike : PySem.W.nsIn K mainGlobals "_law_alike" = some (some (.ref f_law_alike)))
    (l_law_alike : K.lookup f_law_alike = some ⟨oc_law_alike, od_law_alike, .func (PySem.W.fnOf "_law_alike" "_law_alike" (defArgs s_law_alike) (defBody s_law_alike) (defScope s_law_alike) .none kV_law_alike dc_law_alike pm_law_alike an_law_alike cd_law_alike ct_law_alike), sl_law_alike⟩)
    (c_law_alike : PySem.W.codeIn K cd_law_alike "_law_alike" = true)
    (k_law_alike : PySem.W.keepIn K (.ref f_law_alike) = true)
    (a_law : PySem.W.nsIn K mainGlobals "law" = some (some (.ref f_law)))
    (l_law : K.lookup f_law = some ⟨oc_law, od_law, .func (PySem.W.fnOf "law" "law" (defArgs s_law) (defBody s_law) (defScope s_law) .none kV_law dc_law pm_law an_law cd_law ct_law), sl_law⟩)
    (c_law : PySem.W.codeIn K cd_law "law" = true)
    (k_law : PySem.W.keepIn K (.ref f_law) = true)
    (a_TURNS : PySem.W.nsIn K mainGlobals "TURNS" = some (some (.ref A_TURNS)))
    (l_TURNS : K.lookup A_TURNS = some ⟨.type "tuple", oo_TURNS, .seq #[.int (-2) t1_TURNS, .int (-1) t2_TURNS, .int 1 t3_TURNS, .int 2 t4_TURNS] n_TURNS, so_TURNS⟩)
    (a_PLACES : PySem.W.nsIn K mainGlobals "PLACES" = some (some (.ref A_PLACES)))
    (l_PLACES : K.lookup A_PLACES = some ⟨.type "tuple", oo_PLACES, .seq #[.int (-2) t1_PLACES, .int (-1) t2_PLACES, .int 0 t3_PLACES, .int 1 t4_PLACES] n_PLACES, so_PLACES⟩)
    (a_WORDS : PySem.W.nsIn K mainGlobals "WORDS" = some (some (.ref A_WORDS)))
    (l_WORDS : K.lookup A_WORDS = some ⟨.type "tuple", oo_WORDS, .seq #[.str "on" t1_WORDS, .str "back" t2_WORDS, .str "none" t3_WORDS] n_WORDS, so_WORDS⟩)
    (a_TAKEN : PySem.W.nsIn K mainGlobals "TAKEN" = some (some (.ref A_TAKEN)))
    (l_TAKEN : K.lookup A_TAKEN = some ⟨.type "dict", none, .dict #[⟨PyData.keyHash w.params "on", .str "on" tT1, .int 1 uT1⟩, ⟨PyData.keyHash w.params "back", .str "back" tT2, .int (-1) uT2⟩, ⟨PyData.keyHash w.params "none", .str "none" tT3, .int 0 uT3⟩] nT, #[]⟩)
    (nT1 : PySem.W.nsIn K A_TAKEN "on" = some (some (.int 1 vT1)))
    (nT2 : PySem.W.nsIn K A_TAKEN "back" = some (some (.int (-1) vT2)))
    (nT3 : PySem.W.nsIn K A_TAKEN "none" = some (some (.int 0 vT3)))
    (a_MOST_WHEELS : PySem.W.nsIn K mainGlobals "MOST_WHEELS" = some (some (.int 3 t_MOST_WHEELS)))
    (a_MOST_STEPS : PySem.W.nsIn K mainGlobals "MOST_STEPS" = some (some (.int 5 t_MOST_STEPS)))
    (a_LEAST_SIZE : PySem.W.nsIn K mainGlobals "LEAST_SIZE" = some (some (.int 2 t_LEAST_SIZE)))
    (a_MOST_SIZE : PySem.W.nsIn K mainGlobals "MOST_SIZE" = some (some (.int 1000000000000000000000000000000 t_MOST_SIZE))) :
    ∃ fd : FuncData, (∀ (s : Shared) (v : Value), BindsTo s fd ⟨[v], []⟩ [("_law_script_here", v)]) ∧ ∀ base : Heap, K.In base → base.Ns mainGlobals mg → FnOk P w K mg base CX0 9 fa fd ["_law_script_here"] (spLaw K) := by
  have e := hfa.symm.trans (PySem.W.mg_of X G a_law)
  cases e
  have N : Nm mg := ⟨PySem.W.mg_none_of X G z_len, PySem.W.mg_none_of X G z_range, PySem.W.mg_none_of X G z_max, PySem.W.mg_none_of X G z_min, PySem.W.mg_none_of X G z_int, PySem.W.mg_none_of X G z_bool, PySem.W.mg_none_of X G z_str, PySem.W.mg_none_of X G z_list, PySem.W.mg_none_of X G z_tuple, PySem.W.mg_none_of X G z_dict, PySem.W.mg_none_of X G z_set, PySem.W.mg_none_of X G z_abs, PySem.W.mg_none_of X G z_sum, PySem.W.mg_none_of X G z_all, PySem.W.mg_none_of X G z_any, PySem.W.mg_none_of X G z_isinstance, PySem.W.mg_none_of X G z_zip, PySem.W.mg_none_of X G z_enumerate, PySem.W.mg_none_of X G z_sorted⟩
  have T : ScT K C := ⟨⟨s_pg, s_hd, s_po, s_sa⟩, s_n0, s_n1⟩
  have TW : WkT K CW := ⟨⟨w_pg, w_hd, w_po, w_sa⟩, w_n0, w_n1, w_n2, w_n3⟩
  have RZ_InvalidNumber : Rz K P mg "InvalidNumber" E_InvalidNumber := rz_mk (fd := PySem.W.ksFn "__init__" "InvalidNumber.__init__" (defArgs s_InvalidNumber_init) (defBody s_InvalidNumber_init) (defScope s_InvalidNumber_init) .none kV_InvalidNumber dc_InvalidNumber pm_InvalidNumber an_InvalidNumber (.ref cda_InvalidNumber) ct_InvalidNumber cc_InvalidNumber) (me := "self") rfl { cls := ⟨_, _, _, _, _, _, _, _, _, _, _, _, _, _, _, _, ec_InvalidNumber, rf_bInvalidNumber⟩, ini := ei_InvalidNumber, tyI := et_InvalidNumber, fn := ⟨_, _, _, el_InvalidNumber⟩, code := ⟨_, _, _, _, _, _, ed_InvalidNumber, rf_vInvalidNumber, rf_fInvalidNumber⟩, cdv := rfl, clo := rfl, glb := rfl, blt := rfl, cel := ⟨_, _, _, ee_InvalidNumber⟩, cin := en_InvalidNumber, sup := ks_InvalidNumber, noS := e_noS, opq := e_opq, isV := ev_InvalidNumber, isC := em_InvalidNumber, exC := ex_InvalidNumber, tyC := ey_InvalidNumber, kC := ek_InvalidNumber, top := rf_top, par := ⟨_, rfl, rfl⟩, sSup := rfl, sCls := rfl, sSelf := rfl, sCell := (show ∀ x ∈ (defScope s_InvalidNumber_init).names, x.2 ≠ .cell from by decide +kernel), sCo := rfl, sGen := rfl, sFun := rfl, sInt := fun _ _ => rfl, sEv := fun _ _ => ⟨_, rfl⟩ } (fun _ => rfl) (PySem.W.mg_of X G ea_InvalidNumber)
  have RZ_InvalidSizes : Rz K P mg "InvalidSizes" E_InvalidSizes := rz_mk (fd := PySem.W.ksFn "__init__" "InvalidSizes.__init__" (defArgs s_InvalidSizes_init) (defBody s_InvalidSizes_init) (defScope s_InvalidSizes_init) .none kV_InvalidSizes dc_InvalidSizes pm_InvalidSizes an_InvalidSizes (.ref cda_InvalidSizes) ct_InvalidSizes cc_InvalidSizes) (me := "self") rfl { cls := ⟨_, _, _, _, _, _, _, _, _, _, _, _, _, _, _, _, ec_InvalidSizes, rf_bInvalidSizes⟩, ini := ei_InvalidSizes, tyI := et_InvalidSizes, fn := ⟨_, _, _, el_InvalidSizes⟩, code := ⟨_, _, _, _, _, _, ed_InvalidSizes, rf_vInvalidSizes, rf_fInvalidSizes⟩, cdv := rfl, clo := rfl, glb := rfl, blt := rfl, cel := ⟨_, _, _, ee_InvalidSizes⟩, cin := en_InvalidSizes, sup := ks_InvalidSizes, noS := e_noS, opq := e_opq, isV := ev_InvalidSizes, isC := em_InvalidSizes, exC := ex_InvalidSizes, tyC := ey_InvalidSizes, kC := ek_InvalidSizes, top := rf_top, par := ⟨_, rfl, rfl⟩, sSup := rfl, sCls := rfl, sSelf := rfl, sCell := (show ∀ x ∈ (defScope s_InvalidSizes_init).names, x.2 ≠ .cell from by decide +kernel), sCo := rfl, sGen := rfl, sFun := rfl, sInt := fun _ _ => rfl, sEv := fun _ _ => ⟨_, rfl⟩ } (fun _ => rfl) (PySem.W.mg_of X G ea_InvalidSizes)
  have RF_InvalidSteps : RzF K P mg "InvalidSteps" "index" E_InvalidSteps := rzF_mk (fd := PySem.W.ksFn "__init__" "InvalidSteps.__init__" (defArgs s_InvalidSteps_init) (defBody s_InvalidSteps_init) (defScope s_InvalidSteps_init) .none kV_InvalidSteps dc_InvalidSteps pm_InvalidSteps an_InvalidSteps (.ref cda_InvalidSteps) ct_InvalidSteps cc_InvalidSteps) (me := "self") (arg := "index") rfl { cls := ⟨_, _, _, _, _, _, _, _, _, _, _, _, _, _, _, _, ec_InvalidSteps, rf_bInvalidSteps⟩, ini := ei_InvalidSteps, tyI := et_InvalidSteps, fn := ⟨_, _, _, el_InvalidSteps⟩, code := ⟨_, _, _, _, _, _, ed_InvalidSteps, rf_vInvalidSteps, rf_fInvalidSteps⟩, cdv := rfl, clo := rfl, glb := rfl, blt := rfl, cel := ⟨_, _, _, ee_InvalidSteps⟩, cin := en_InvalidSteps, sup := ks_InvalidSteps, noS := e_noS, opq := e_opq, isV := ev_InvalidSteps, isC := em_InvalidSteps, exC := ex_InvalidSteps, tyC := ey_InvalidSteps, kC := ek_InvalidSteps, top := rf_top, par := ⟨_, rfl, rfl⟩, sSup := rfl, sCls := rfl, sSelf := rfl, sCell := (show ∀ x ∈ (defScope s_InvalidSteps_init).names, x.2 ≠ .cell from by decide +kernel), sCo := rfl, sGen := rfl, sFun := rfl, sInt := fun _ _ => rfl, sEv := fun _ _ => ⟨_, rfl⟩ } { ox := ⟨⟨_, _, _, _, _, _, _, _, _, _, _, _, _, _, _, ec_InvalidSteps, rf_bInvalidSteps⟩, esa_InvalidSteps, ex_InvalidSteps, ey_InvalidSteps, ek_InvalidSteps⟩, xf := ⟨ega_InvalidSteps, egg_InvalidSteps, ex_InvalidSteps, egd_InvalidSteps⟩, hno := egn_InvalidSteps, sArg := rfl, ne := by decide +kernel, sSw := fun _ _ => rfl, dbM := by decide +kernel, dbA := by decide +kernel } (fun _ _ => rfl) (PySem.W.mg_of X G ea_InvalidSteps)
  have RZ_TooLong : Rz K P mg "TooLong" E_TooLong := rz_mk (fd := PySem.W.ksFn "__init__" "TooLong.__init__" (defArgs s_TooLong_init) (defBody s_TooLong_init) (defScope s_TooLong_init) .none kV_TooLong dc_TooLong pm_TooLong an_TooLong (.ref cda_TooLong) ct_TooLong cc_TooLong) (me := "self") rfl { cls := ⟨_, _, _, _, _, _, _, _, _, _, _, _, _, _, _, _, ec_TooLong, rf_bTooLong⟩, ini := ei_TooLong, tyI := et_TooLong, fn := ⟨_, _, _, el_TooLong⟩, code := ⟨_, _, _, _, _, _, ed_TooLong, rf_vTooLong, rf_fTooLong⟩, cdv := rfl, clo := rfl, glb := rfl, blt := rfl, cel := ⟨_, _, _, ee_TooLong⟩, cin := en_TooLong, sup := ks_TooLong, noS := e_noS, opq := e_opq, isV := ev_TooLong, isC := em_TooLong, exC := ex_TooLong, tyC := ey_TooLong, kC := ek_TooLong, top := rf_top, par := ⟨_, rfl, rfl⟩, sSup := rfl, sCls := rfl, sSelf := rfl, sCell := (show ∀ x ∈ (defScope s_TooLong_init).names, x.2 ≠ .cell from by decide +kernel), sCo := rfl, sGen := rfl, sFun := rfl, sInt := fun _ _ => rfl, sEv := fun _ _ => ⟨_, rfl⟩ } (fun _ => rfl) (PySem.W.mg_of X G ea_TooLong)
  have VE_WheelError : Gc mg "WheelError" (.ref E_WheelError) := gc_ref X G ea_WheelError
  have IE_InvalidSizes : IsE K E_InvalidSizes E_WheelError := ⟨⟨xg_InvalidSizes, xk_InvalidSizes, ex_InvalidSizes, xd_InvalidSizes, xa_InvalidSizes, is_hn, is_tk, xm_InvalidSizes⟩, kit_sub eh_WheelError ey_WheelError xs_InvalidSizes⟩
  have F_law_next := fun_mk (st := s_law_next) l_law_next c_law_next k_law_next
  have B_law_next := F_law_next.binds (ps := ["_law_h", "_law_cap"]) fun _ _ _ _ _ _ us hl => match us, hl with | [_, _], _ => rfl
  have F_law_mix := fun_mk (st := s_law_mix) l_law_mix c_law_mix k_law_mix
  have B_law_mix := F_law_mix.binds (ps := ["_law_script_here", "_law_seed"]) fun _ _ _ _ _ _ us hl => match us, hl with | [_, _], _ => rfl
  have F_law_pick := fun_mk (st := s_law_pick) l_law_pick c_law_pick k_law_pick
  have B_law_pick := F_law_pick.binds (ps := ["_law_h", "_law_things"]) fun _ _ _ _ _ _ us hl => match us, hl with | [_, _], _ => rfl
  have F_law_plain := fun_mk (st := s_law_plain) l_law_plain c_law_plain k_law_plain
  have B_law_plain := F_law_plain.binds (ps := ["_law_h", "_law_wheels"]) fun _ _ _ _ _ _ us hl => match us, hl with | [_, _], _ => rfl
  have F_law_step := fun_mk (st := s_law_step) l_law_step c_law_step k_law_step
  have B_law_step := F_law_step.binds (ps := ["_law_h", "_law_wheels"]) fun _ _ _ _ _ _ us hl => match us, hl with | [_, _], _ => rfl
  have F_is_integer := fun_mk (st := s_is_integer) l_is_integer c_is_integer k_is_integer
  have B_is_integer := F_is_integer.binds (ps := ["thing", "low", "high"]) fun _ _ _ _ _ _ us hl => match us, hl with | [_, _, _], _ => rfl
  have F_is_plain := fun_mk (st := s_is_plain) l_is_plain c_is_plain k_is_plain
  have B_is_plain := F_is_plain.binds (ps := ["thing", "wheels"]) fun _ _ _ _ _ _ us hl => match us, hl with | [_, _], _ => rfl
  have F_are_plain := fun_mk (st := s_are_plain) l_are_plain c_are_plain k_are_plain
  have B_are_plain := F_are_plain.binds (ps := ["thing", "wheels"]) fun _ _ _ _ _ _ us hl => match us, hl with | [_, _], _ => rfl
  have F_is_step := fun_mk (st := s_is_step) l_is_step c_is_step k_is_step
  have B_is_step := F_is_step.binds (ps := ["thing", "wheels"]) fun _ _ _ _ _ _ us hl => match us, hl with | [_, _], _ => rfl
  have F_turned := fun_mk (st := s_turned) l_turned c_turned k_turned
  have B_turned := F_turned.binds (ps := ["showing", "sizes", "wheel", "by", "word"]) fun _ _ _ _ _ _ us hl => match us, hl with | [_, _, _, _, _], _ => rfl
  have F_ran := fun_mk (st := s_ran) l_ran c_ran k_ran
  have B_ran := F_ran.binds (ps := ["showing", "sizes", "steps"]) fun _ _ _ _ _ _ us hl => match us, hl with | [_, _, _], _ => rfl
  have F_stepped := fun_mk (st := s_stepped) l_stepped c_stepped k_stepped
  have B_stepped := F_stepped.binds (ps := ["showing", "sizes", "step"]) fun _ _ _ _ _ _ us hl => match us, hl with | [_, _, _], _ => rfl
  have F_all_plain := fun_mk (st := s_all_plain) l_all_plain c_all_plain k_all_plain
  have B_all_plain := F_all_plain.binds (ps := ["steps"]) fun _ _ _ _ _ _ us hl => match us, hl with | [_], _ => rfl
  have F_Script_init := fun_mk (st := s_Script_init) l_Script_init c_Script_init k_Script_init
  have B_Script_init := F_Script_init.binds (ps := ["self", "wheels", "steps"]) fun _ _ _ _ _ _ us hl => match us, hl with | [_, _, _], _ => rfl
  have F_first_of := fun_mk (st := s_first_of) l_first_of c_first_of k_first_of
  have B_first_of := F_first_of.binds (ps := ["sizes"]) fun _ _ _ _ _ _ us hl => match us, hl with | [_], _ => rfl
  have F_are_sizes := fun_mk (st := s_are_sizes) l_are_sizes c_are_sizes k_are_sizes
  have B_are_sizes := F_are_sizes.binds (ps := ["thing", "wheels"]) fun _ _ _ _ _ _ us hl => match us, hl with | [_, _], _ => rfl
  have F_Walk_init := fun_mk (st := s_Walk_init) l_Walk_init c_Walk_init k_Walk_init
  have B_Walk_init := F_Walk_init.binds (ps := ["self", "sizes"]) fun _ _ _ _ _ _ us hl => match us, hl with | [_, _], _ => rfl
  have F_Walk_go := fun_mk (st := s_Walk_go) l_Walk_go c_Walk_go k_Walk_go
  have B_Walk_go := F_Walk_go.binds (ps := ["self", "step"]) fun _ _ _ _ _ _ us hl => match us, hl with | [_, _], _ => rfl
  have F_Walk_undo := fun_mk (st := s_Walk_undo) l_Walk_undo c_Walk_undo k_Walk_undo
  have B_Walk_undo := F_Walk_undo.binds (ps := ["self"]) fun _ _ _ _ _ _ us hl => match us, hl with | [_], _ => rfl
  have F_Walk_redo := fun_mk (st := s_Walk_redo) l_Walk_redo c_Walk_redo k_Walk_redo
  have B_Walk_redo := F_Walk_redo.binds (ps := ["self"]) fun _ _ _ _ _ _ us hl => match us, hl with | [_], _ => rfl
  have F_Walk_do := fun_mk (st := s_Walk_do) l_Walk_do c_Walk_do k_Walk_do
  have B_Walk_do := F_Walk_do.binds (ps := ["self", "step"]) fun _ _ _ _ _ _ us hl => match us, hl with | [_, _], _ => rfl
  have F_Walk_showing := fun_mk (st := s_Walk_showing) l_Walk_showing c_Walk_showing k_Walk_showing
  have B_Walk_showing := F_Walk_showing.binds (ps := ["self"]) fun _ _ _ _ _ _ us hl => match us, hl with | [_], _ => rfl
  have F_Walk_log := fun_mk (st := s_Walk_log) l_Walk_log c_Walk_log k_Walk_log
  have B_Walk_log := F_Walk_log.binds (ps := ["self"]) fun _ _ _ _ _ _ us hl => match us, hl with | [_], _ => rfl
  have F_law_many := fun_mk (st := s_law_many) l_law_many c_law_many k_law_many
  have B_law_many := F_law_many.binds (ps := ["_law_steps"]) fun _ _ _ _ _ _ us hl => match us, hl with | [_], _ => rfl
  have F_Walk_script := fun_mk (st := s_Walk_script) l_Walk_script c_Walk_script k_Walk_script
  have B_Walk_script := F_Walk_script.binds (ps := ["self", "many"]) fun _ _ _ _ _ _ us hl => match us, hl with | [_, _], _ => rfl
  have F_law_made := fun_mk (st := s_law_made) l_law_made c_law_made k_law_made
  have B_law_made := F_law_made.binds (ps := ["_law_sizes"]) fun _ _ _ _ _ _ us hl => match us, hl with | [_], _ => rfl
  have F_law_refused := fun_mk (st := s_law_refused) l_law_refused c_law_refused k_law_refused
  have B_law_refused := F_law_refused.binds (ps := ["_law_walk", "_law_step_here"]) fun _ _ _ _ _ _ us hl => match us, hl with | [_, _], _ => rfl
  have F_law_script := fun_mk (st := s_law_script) l_law_script c_law_script k_law_script
  have B_law_script := F_law_script.binds (ps := ["_law_walk", "_law_many_here"]) fun _ _ _ _ _ _ us hl => match us, hl with | [_, _], _ => rfl
  have F_law_alike := fun_mk (st := s_law_alike) l_law_alike c_law_alike k_law_alike
  have B_law_alike := F_law_alike.binds (ps := ["_law_found", "_law_due"]) fun _ _ _ _ _ _ us hl => match us, hl with | [_, _], _ => rfl
  have F_law := fun_mk (st := s_law) l_law c_law k_law
  have B_law := F_law.binds (ps := ["_law_script_here"]) fun _ _ _ _ _ _ us hl => match us, hl with | [_], _ => rfl
  have G_TURNS := gc_ref X G a_TURNS
  have T_TURNS := kt_ints4 l_TURNS
  have G_PLACES := gc_ref X G a_PLACES
  have T_PLACES := kt_ints4 l_PLACES
  have G_WORDS := gc_ref X G a_WORDS
  have T_WORDS := kt_strs3 l_WORDS
  have G_TAKEN := gc_ref X G a_TAKEN
  have T_TAKEN := taken_of l_TAKEN nT1 nT2 nT3
  have G_MOST_WHEELS := gc_int X G a_MOST_WHEELS
  have G_MOST_STEPS := gc_int X G a_MOST_STEPS
  have G_LEAST_SIZE := gc_int X G a_LEAST_SIZE
  have G_MOST_SIZE : Gc mg "MOST_SIZE" (.int (10 ^ 30)) := (show (10 : Int) ^ 30 = 1000000000000000000000000000000 by decide) ▸ gc_int X G a_MOST_SIZE
  refine ⟨PySem.W.fnOf "law" "law" (defArgs s_law) (defBody s_law) (defScope s_law) .none kV_law dc_law pm_law an_law cd_law ct_law, fun s v => .of_eq rfl, fun base _ _ => ?_⟩
  have c_next := cal_of (base := base) (P := P) (w := w) F_law_next (PySem.W.mg_of X G a_law_next) B_law_next (ok_next F_law_next N)
  have c_mix := cal_of (base := base) (P := P) (w := w) F_law_mix (PySem.W.mg_of X G a_law_mix) B_law_mix (ok_mix F_law_mix N)
  have c_pick := cal_of (base := base) (P := P) (w := w) F_law_pick (PySem.W.mg_of X G a_law_pick) B_law_pick (ok_pick F_law_pick N c_next)
  have c_plain := cal_of (base := base) (P := P) (w := w) F_law_plain (PySem.W.mg_of X G a_law_plain) B_law_plain (ok_plain F_law_plain N c_next c_pick)
  have c_step := cal_of (base := base) (P := P) (w := w) F_law_step (PySem.W.mg_of X G a_law_step) B_law_step (ok_step F_law_step N c_next c_plain)
  have c_isint := cal_of (base := base) (P := P) (w := w) F_is_integer (PySem.W.mg_of X G a_is_integer) B_is_integer (ok_is_integer F_is_integer N)
  have c_isplain := cal_of (base := base) (P := P) (w := w) F_is_plain (PySem.W.mg_of X G a_is_plain) B_is_plain (ok_is_plain F_is_plain N c_isint G_TURNS T_TURNS G_PLACES T_PLACES G_WORDS T_WORDS)
  have c_areplain := cal_of (base := base) (P := P) (w := w) F_are_plain (PySem.W.mg_of X G a_are_plain) B_are_plain (ok_are_plain F_are_plain N c_isplain)
  have c_isstep := cal_of (base := base) (P := P) (w := w) F_is_step (PySem.W.mg_of X G a_is_step) B_is_step (ok_is_step F_is_step N c_isint c_isplain c_areplain)
  have c_turned := cal_of (base := base) (P := P) (w := w) F_turned (PySem.W.mg_of X G a_turned) B_turned (ok_turned F_turned N G_TAKEN T_TAKEN)
  have c_ran0 := cal_of (base := base) (P := P) (w := w) F_ran (PySem.W.mg_of X G a_ran) B_ran (fn_none (k := 0) (ps := ["showing", "sizes", "steps"]) (sp := spRan K 0) no_ran)
  have c_stepped0 := cal_of (base := base) (P := P) (w := w) F_stepped (PySem.W.mg_of X G a_stepped) B_stepped (ok_stepped (lv' := 1) F_stepped N c_turned c_ran0 (by decide) (by decide))
  have c_ran1 := cal_of (base := base) (P := P) (w := w) F_ran (PySem.W.mg_of X G a_ran) B_ran (ok_ran F_ran c_stepped0)
  have c_stepped1 := cal_of (base := base) (P := P) (w := w) F_stepped (PySem.W.mg_of X G a_stepped) B_stepped (ok_stepped (lv' := 3) F_stepped N c_turned c_ran1 (by decide) (by decide))
  have c_allplain := cal_of (base := base) (P := P) (w := w) F_all_plain (PySem.W.mg_of X G a_all_plain) B_all_plain (ok_all_plain F_all_plain)
  have c_script : Mak CX0 P w K mg base _ "Script" C _ := ⟨f_Script_init, _, _, ⟨s_mk, a_Script_init, i_Script_init, s_kc⟩, ok_init F_Script_init N T c_isint c_isstep c_allplain G_MOST_WHEELS G_MOST_STEPS, PySem.W.mg_of X G s_aC, B_Script_init⟩
  have c_first := cal_of (base := base) (P := P) (w := w) F_first_of (PySem.W.mg_of X G a_first_of) B_first_of (ok_first_of F_first_of N)
  have c_aresizes := cal_of (base := base) (P := P) (w := w) F_are_sizes (PySem.W.mg_of X G a_are_sizes) B_are_sizes (ok_are_sizes F_are_sizes N c_isint G_LEAST_SIZE G_MOST_SIZE)
  have c_winit : Mak CX0 P w K mg base _ "Walk" CW _ := ⟨f_Walk_init, _, _, ⟨w_mk, a_Walk_init, i_Walk_init, w_kc⟩, ok_winit F_Walk_init N TW c_aresizes c_first G_MOST_WHEELS, PySem.W.mg_of X G w_aC, B_Walk_init⟩
  have c_wgo : Met CX0 P w K mg base _ CW "go" _ := ⟨f_Walk_go, _, _, ok_wgo F_Walk_go TW c_stepped1, ⟨a_Walk_go, i_Walk_go, k_Walk_go⟩, TW.cl, B_Walk_go⟩
  have c_wundo : Met CX0 P w K mg base _ CW "undo" _ := ⟨f_Walk_undo, _, _, ok_wundo F_Walk_undo TW, ⟨a_Walk_undo, i_Walk_undo, k_Walk_undo⟩, TW.cl, B_Walk_undo⟩
  have c_wredo : Met CX0 P w K mg base _ CW "redo" _ := ⟨f_Walk_redo, _, _, ok_wredo F_Walk_redo TW c_wgo, ⟨a_Walk_redo, i_Walk_redo, k_Walk_redo⟩, TW.cl, B_Walk_redo⟩
  have c_wdo : Met CX0 P w K mg base _ CW "do" _ := ⟨f_Walk_do, _, _, ok_wdo F_Walk_do N TW c_isstep c_wgo, ⟨a_Walk_do, i_Walk_do, k_Walk_do⟩, TW.cl, B_Walk_do⟩
  have c_wshowing : Prp CX0 P w K mg base _ CW "showing" _ := ⟨p_Walk_showing, f_Walk_showing, _, _, ok_wshowing F_Walk_showing TW, ⟨pa_Walk_showing, pg_Walk_showing, pt_Walk_showing, _, pr_Walk_showing⟩, TW.cl, B_Walk_showing⟩
  have c_wlog : Prp CX0 P w K mg base _ CW "log" _ := ⟨p_Walk_log, f_Walk_log, _, _, ok_wlog F_Walk_log N TW, ⟨pa_Walk_log, pg_Walk_log, pt_Walk_log, _, pr_Walk_log⟩, TW.cl, B_Walk_log⟩
  have c_manyL := cal_of (base := base) (P := P) (w := w) F_law_many (PySem.W.mg_of X G a_law_many) B_law_many (ok_manyL F_law_many N)
  have c_winitX : Mak (L2.CX P w) P w K mg base _ "Walk" CW _ := ⟨f_Walk_init, _, _, ⟨w_mk, a_Walk_init, i_Walk_init, w_kc⟩, ok_winitX (C := CW) F_Walk_init N RZ_InvalidSizes c_aresizes G_MOST_WHEELS, PySem.W.mg_of X G w_aC, B_Walk_init⟩
  have c_wdoX : Met (L2.CX P w) P w K mg base _ CW "do" _ := ⟨f_Walk_do, _, _, ok_wdoX F_Walk_do N TW RF_InvalidSteps c_isstep, ⟨a_Walk_do, i_Walk_do, k_Walk_do⟩, TW.cl, B_Walk_do⟩
  have c_wscriptX : Met (L2.CX P w) P w K mg base _ CW "script" _ := ⟨f_Walk_script, _, _, ok_wscriptX F_Walk_script N TW RZ_InvalidNumber RZ_TooLong c_isint c_allplain c_script G_MOST_STEPS, ⟨a_Walk_script, i_Walk_script, k_Walk_script⟩, TW.cl, B_Walk_script⟩
  have c_lmade := cal_of (base := base) (P := P) (w := w) F_law_made (PySem.W.mg_of X G a_law_made) B_law_made (ok_law_made F_law_made N RZ_InvalidSizes VE_WheelError IE_InvalidSizes c_winitX)
  have c_lrefW := cal_of (base := base) (P := P) (w := w) F_law_refused (PySem.W.mg_of X G a_law_refused) B_law_refused (ok_law_refusedW F_law_refused RF_InvalidSteps c_wdoX)
  have c_lscr := cal_of (base := base) (P := P) (w := w) F_law_script (PySem.W.mg_of X G a_law_script) B_law_script (ok_law_script F_law_script RZ_InvalidNumber RZ_TooLong NE_TooLong_InvalidNumber c_wscriptX)
  have c_alike0 := cal_of (base := base) (P := P) (w := w) F_law_alike (PySem.W.mg_of X G a_law_alike) B_law_alike (fn_none (k := 0) (ps := ["_law_found", "_law_due"]) (sp := spAlike K 0) no_alike)
  have c_alike1 := cal_of (base := base) (P := P) (w := w) F_law_alike (PySem.W.mg_of X G a_law_alike) B_law_alike (ok_alike F_law_alike N c_alike0)
  have c_alike2 := cal_of (base := base) (P := P) (w := w) F_law_alike (PySem.W.mg_of X G a_law_alike) B_law_alike (ok_alike F_law_alike N c_alike1)
  have c_alike3 := cal_of (base := base) (P := P) (w := w) F_law_alike (PySem.W.mg_of X G a_law_alike) B_law_alike (ok_alike F_law_alike N c_alike2)
  have c_alike4 := cal_of (base := base) (P := P) (w := w) F_law_alike (PySem.W.mg_of X G a_law_alike) B_law_alike (ok_alike F_law_alike N c_alike3)
  have c_alike5 := cal_of (base := base) (P := P) (w := w) F_law_alike (PySem.W.mg_of X G a_law_alike) B_law_alike (ok_alike F_law_alike N c_alike4)
  have c_alike6 := cal_of (base := base) (P := P) (w := w) F_law_alike (PySem.W.mg_of X G a_law_alike) B_law_alike (ok_alike F_law_alike N c_alike5)
  exact ok_law F_law N c_mix c_next c_step c_manyL c_alike6 c_winit c_wundo c_wredo c_wdo c_wshowing c_wlog c_lmade c_lrefW c_lscr
end WZ
open PySem PySem.W PyProof.Rows
set_option maxHeartbeats 0 in
theorem PySem.Challenge.cw_wheelsizes_k14_walks_refused_holds : PySem.Challenge.rw_wheelsizes_k14_walks_refused.Holds := by
  refine topK ?_
  k_fill
  refine WZ.walk (l := PySem.Challenge.rw_wheelsizes_k14_walks_refused) (x := "_law_script_here") (k := 9) rfl rfl ⟨rfl, by decide, by decide⟩ (fun w h Y => PySem.W.kIn_of Y) ?F
  case F =>
    intro w mg fa h KX G hmg
    refine' WZ.all_mk KX G hmg ?z_len ?z_range ?z_max ?z_min ?z_int ?z_bool ?z_str ?z_list ?z_tuple ?z_dict ?z_set ?z_abs ?z_sum ?z_all ?z_any ?z_isinstance ?z_zip ?z_enumerate ?z_sorted ?s_aC ?s_pg ?s_hd ?s_po ?s_sa ?s_mk ?s_kc ?s_n0 ?s_n1 ?w_aC ?w_pg ?w_hd ?w_po ?w_sa ?w_mk ?w_kc ?w_n0 ?w_n1 ?w_n2 ?w_n3 ?e_noS ?e_opq ?rf_top ?ea_InvalidNumber ?ec_InvalidNumber ?rf_bInvalidNumber ?ei_InvalidNumber ?et_InvalidNumber ?el_InvalidNumber ?ed_InvalidNumber ?rf_vInvalidNumber ?rf_fInvalidNumber ?ee_InvalidNumber ?en_InvalidNumber ?ks_InvalidNumber ?ev_InvalidNumber ?em_InvalidNumber ?ex_InvalidNumber ?ey_InvalidNumber ?ek_InvalidNumber ?ea_InvalidSizes ?ec_InvalidSizes ?rf_bInvalidSizes ?ei_InvalidSizes ?et_InvalidSizes ?el_InvalidSizes ?ed_InvalidSizes ?rf_vInvalidSizes ?rf_fInvalidSizes ?ee_InvalidSizes ?en_InvalidSizes ?ks_InvalidSizes ?ev_InvalidSizes ?em_InvalidSizes ?ex_InvalidSizes ?ey_InvalidSizes ?ek_InvalidSizes ?ea_InvalidSteps ?ec_InvalidSteps ?rf_bInvalidSteps ?ei_InvalidSteps ?et_InvalidSteps ?el_InvalidSteps ?ed_InvalidSteps ?rf_vInvalidSteps ?rf_fInvalidSteps ?ee_InvalidSteps ?en_InvalidSteps ?ks_InvalidSteps ?ev_InvalidSteps ?em_InvalidSteps ?ex_InvalidSteps ?ey_InvalidSteps ?ek_InvalidSteps ?esa_InvalidSteps ?ega_InvalidSteps ?egg_InvalidSteps ?egd_InvalidSteps ?egn_InvalidSteps ?ea_TooLong ?ec_TooLong ?rf_bTooLong ?ei_TooLong ?et_TooLong ?el_TooLong ?ed_TooLong ?rf_vTooLong ?rf_fTooLong ?ee_TooLong ?en_TooLong ?ks_TooLong ?ev_TooLong ?em_TooLong ?ex_TooLong ?ey_TooLong ?ek_TooLong ?ea_WheelError ?eh_WheelError ?ey_WheelError ?is_hn ?is_tk ?xg_InvalidSizes ?xk_InvalidSizes ?xd_InvalidSizes ?xa_InvalidSizes ?xm_InvalidSizes ?xs_InvalidSizes ?NE_TooLong_InvalidNumber ?a_law_next ?l_law_next ?c_law_next ?k_law_next ?a_law_mix ?l_law_mix ?c_law_mix ?k_law_mix ?a_law_pick ?l_law_pick ?c_law_pick ?k_law_pick ?a_law_plain ?l_law_plain ?c_law_plain ?k_law_plain ?a_law_step ?l_law_step ?c_law_step ?k_law_step ?a_is_integer ?l_is_integer ?c_is_integer ?k_is_integer ?a_is_plain ?l_is_plain ?c_is_plain ?k_is_plain ?a_are_plain ?l_are_plain ?c_are_plain ?k_are_plain ?a_is_step ?l_is_step ?c_is_step ?k_is_step ?a_turned ?l_turned ?c_turned ?k_turned ?a_ran ?l_ran ?c_ran ?k_ran ?a_stepped ?l_stepped ?c_stepped ?k_stepped ?a_all_plain ?l_all_plain ?c_all_plain ?k_all_plain ?a_Script_init ?i_Script_init ?l_Script_init ?c_Script_init ?k_Script_init ?a_first_of ?l_first_of ?c_first_of ?k_first_of ?a_are_sizes ?l_are_sizes ?c_are_sizes ?k_are_sizes ?a_Walk_init ?i_Walk_init ?l_Walk_init ?c_Walk_init ?k_Walk_init ?a_Walk_go ?i_Walk_go ?l_Walk_go ?c_Walk_go ?k_Walk_go ?a_Walk_undo ?i_Walk_undo ?l_Walk_undo ?c_Walk_undo ?k_Walk_undo ?a_Walk_redo ?i_Walk_redo ?l_Walk_redo ?c_Walk_redo ?k_Walk_redo ?a_Walk_do ?i_Walk_do ?l_Walk_do ?c_Walk_do ?k_Walk_do ?pa_Walk_showing ?pg_Walk_showing ?pt_Walk_showing ?pr_Walk_showing ?l_Walk_showing ?c_Walk_showing ?k_Walk_showing ?pa_Walk_log ?pg_Walk_log ?pt_Walk_log ?pr_Walk_log ?l_Walk_log ?c_Walk_log ?k_Walk_log ?a_law_many ?l_law_many ?c_law_many ?k_law_many ?a_Walk_script ?i_Walk_script ?l_Walk_script ?c_Walk_script ?k_Walk_script ?a_law_made ?l_law_made ?c_law_made ?k_law_made ?a_law_refused ?l_law_refused ?c_law_refused ?k_law_refused ?a_law_script ?l_law_script ?c_law_script ?k_law_script ?a_law_alike ?l_law_alike ?c_law_alike ?k_law_alike ?a_law ?l_law ?c_law ?k_law ?a_TURNS ?l_TURNS ?a_PLACES ?l_PLACES ?a_WORDS ?l_WORDS ?a_TAKEN ?l_TAKEN ?nT1 ?nT2 ?nT3 ?a_MOST_WHEELS ?a_MOST_STEPS ?a_LEAST_SIZE ?a_MOST_SIZE
    (case z_len => k_is)
    (case z_range => k_is)
    (case z_max => k_is)
    (case z_min => k_is)
    (case z_int => k_is)
    (case z_bool => k_is)
    (case z_str => k_is)
    (case z_list => k_is)
    (case z_tuple => k_is)
    (case z_dict => k_is)
    (case z_set => k_is)
    (case z_abs => k_is)
    (case z_sum => k_is)
    (case z_all => k_is)
    (case z_any => k_is)
    (case z_isinstance => k_is)
    (case z_zip => k_is)
    (case z_enumerate => k_is)
    (case z_sorted => k_is)
    (case s_aC => k_is)
    (case s_pg => k_is)
    (case s_hd => k_is)
    (case s_po => k_is)
    (case s_sa => k_is)
    (case s_mk => k_is)
    (case s_kc => k_is)
    (case s_n0 => k_is)
    (case s_n1 => k_is)
    (case w_aC => k_is)
    (case w_pg => k_is)
    (case w_hd => k_is)
    (case w_po => k_is)
    (case w_sa => k_is)
    (case w_mk => k_is)
    (case w_kc => k_is)
    (case w_n0 => k_is)
    (case w_n1 => k_is)
    (case w_n2 => k_is)
    (case w_n3 => k_is)
    (case e_noS => k_is)
    (case e_opq => k_is)
    (case rf_top => rfl)
    (case ea_InvalidNumber => k_is)
    (case ec_InvalidNumber => k_is)
    (case rf_bInvalidNumber => rfl)
    (case ei_InvalidNumber => k_is)
    (case et_InvalidNumber => k_is)
    (case el_InvalidNumber => k_is)
    (case ed_InvalidNumber => k_is)
    (case rf_vInvalidNumber => rfl)
    (case rf_fInvalidNumber => rfl)
    (case ee_InvalidNumber => k_is)
    (case en_InvalidNumber => k_is)
    (case ks_InvalidNumber => ks_is)
    (case ev_InvalidNumber => k_is)
    (case em_InvalidNumber => k_is)
    (case ex_InvalidNumber => k_is)
    (case ey_InvalidNumber => k_is)
    (case ek_InvalidNumber => k_is)
    (case ea_InvalidSizes => k_is)
    (case ec_InvalidSizes => k_is)
    (case rf_bInvalidSizes => rfl)
    (case ei_InvalidSizes => k_is)
    (case et_InvalidSizes => k_is)
    (case el_InvalidSizes => k_is)
    (case ed_InvalidSizes => k_is)
    (case rf_vInvalidSizes => rfl)
    (case rf_fInvalidSizes => rfl)
    (case ee_InvalidSizes => k_is)
    (case en_InvalidSizes => k_is)
    (case ks_InvalidSizes => ks_is)
    (case ev_InvalidSizes => k_is)
    (case em_InvalidSizes => k_is)
    (case ex_InvalidSizes => k_is)
    (case ey_InvalidSizes => k_is)
    (case ek_InvalidSizes => k_is)
    (case ea_InvalidSteps => k_is)
    (case ec_InvalidSteps => k_is)
    (case rf_bInvalidSteps => rfl)
    (case ei_InvalidSteps => k_is)
    (case et_InvalidSteps => k_is)
    (case el_InvalidSteps => k_is)
    (case ed_InvalidSteps => k_is)
    (case rf_vInvalidSteps => rfl)
    (case rf_fInvalidSteps => rfl)
    (case ee_InvalidSteps => k_is)
    (case en_InvalidSteps => k_is)
    (case ks_InvalidSteps => ks_is)
    (case ev_InvalidSteps => k_is)
    (case em_InvalidSteps => k_is)
    (case ex_InvalidSteps => k_is)
    (case ey_InvalidSteps => k_is)
    (case ek_InvalidSteps => k_is)
    (case esa_InvalidSteps => k_is)
    (case ega_InvalidSteps => k_is)
    (case egg_InvalidSteps => k_is)
    (case egd_InvalidSteps => k_is)
    (case egn_InvalidSteps => k_is)
    (case ea_TooLong => k_is)
    (case ec_TooLong => k_is)
    (case rf_bTooLong => rfl)
    (case ei_TooLong => k_is)
    (case et_TooLong => k_is)
    (case el_TooLong => k_is)
    (case ed_TooLong => k_is)
    (case rf_vTooLong => rfl)
    (case rf_fTooLong => rfl)
    (case ee_TooLong => k_is)
    (case en_TooLong => k_is)
    (case ks_TooLong => ks_is)
    (case ev_TooLong => k_is)
    (case em_TooLong => k_is)
    (case ex_TooLong => k_is)
    (case ey_TooLong => k_is)
    (case ek_TooLong => k_is)
    (case ea_WheelError => k_is)
    (case eh_WheelError => k_is)
    (case ey_WheelError => k_is)
    (case is_hn => k_is)
    (case is_tk => k_is)
    (case xg_InvalidSizes => k_is)
    (case xk_InvalidSizes => k_is)
    (case xd_InvalidSizes => k_is)
    (case xa_InvalidSizes => k_is)
    (case xm_InvalidSizes => k_is)
    (case xs_InvalidSizes => k_is)
    (case NE_TooLong_InvalidNumber => k_is)
    (case a_law_next => k_is)
    (case l_law_next => k_is)
    (case c_law_next => k_is)
    (case k_law_next => k_is)
    (case a_law_mix => k_is)
    (case l_law_mix => k_is)
    (case c_law_mix => k_is)
    (case k_law_mix => k_is)
    (case a_law_pick => k_is)
    (case l_law_pick => k_is)
    (case c_law_pick => k_is)
    (case k_law_pick => k_is)
    (case a_law_plain => k_is)
    (case l_law_plain => k_is)
    (case c_law_plain => k_is)
    (case k_law_plain => k_is)
    (case a_law_step => k_is)
    (case l_law_step => k_is)
    (case c_law_step => k_is)
    (case k_law_step => k_is)
    (case a_is_integer => k_is)
    (case l_is_integer => k_is)
    (case c_is_integer => k_is)
    (case k_is_integer => k_is)
    (case a_is_plain => k_is)
    (case l_is_plain => k_is)
    (case c_is_plain => k_is)
    (case k_is_plain => k_is)
    (case a_are_plain => k_is)
    (case l_are_plain => k_is)
    (case c_are_plain => k_is)
    (case k_are_plain => k_is)
    (case a_is_step => k_is)
    (case l_is_step => k_is)
    (case c_is_step => k_is)
    (case k_is_step => k_is)
    (case a_turned => k_is)
    (case l_turned => k_is)
    (case c_turned => k_is)
    (case k_turned => k_is)
    (case a_ran => k_is)
    (case l_ran => k_is)
    (case c_ran => k_is)
    (case k_ran => k_is)
    (case a_stepped => k_is)
    (case l_stepped => k_is)
    (case c_stepped => k_is)
    (case k_stepped => k_is)
    (case a_all_plain => k_is)
    (case l_all_plain => k_is)
    (case c_all_plain => k_is)
    (case k_all_plain => k_is)
    (case a_Script_init => k_is)
    (case i_Script_init => k_is)
    (case l_Script_init => k_is)
    (case c_Script_init => k_is)
    (case k_Script_init => k_is)
    (case a_first_of => k_is)
    (case l_first_of => k_is)
    (case c_first_of => k_is)
    (case k_first_of => k_is)
    (case a_are_sizes => k_is)
    (case l_are_sizes => k_is)
    (case c_are_sizes => k_is)
    (case k_are_sizes => k_is)
    (case a_Walk_init => k_is)
    (case i_Walk_init => k_is)
    (case l_Walk_init => k_is)
    (case c_Walk_init => k_is)
    (case k_Walk_init => k_is)
    (case a_Walk_go => k_is)
    (case i_Walk_go => k_is)
    (case l_Walk_go => k_is)
    (case c_Walk_go => k_is)
    (case k_Walk_go => k_is)
    (case a_Walk_undo => k_is)
    (case i_Walk_undo => k_is)
    (case l_Walk_undo => k_is)
    (case c_Walk_undo => k_is)
    (case k_Walk_undo => k_is)
    (case a_Walk_redo => k_is)
    (case i_Walk_redo => k_is)
    (case l_Walk_redo => k_is)
    (case c_Walk_redo => k_is)
    (case k_Walk_redo => k_is)
    (case a_Walk_do => k_is)
    (case i_Walk_do => k_is)
    (case l_Walk_do => k_is)
    (case c_Walk_do => k_is)
    (case k_Walk_do => k_is)
    (case pa_Walk_showing => k_is)
    (case pg_Walk_showing => k_is)
    (case pt_Walk_showing => k_is)
    (case pr_Walk_showing => k_is)
    (case l_Walk_showing => k_is)
    (case c_Walk_showing => k_is)
    (case k_Walk_showing => k_is)
    (case pa_Walk_log => k_is)
    (case pg_Walk_log => k_is)
    (case pt_Walk_log => k_is)
    (case pr_Walk_log => k_is)
    (case l_Walk_log => k_is)
    (case c_Walk_log => k_is)
    (case k_Walk_log => k_is)
    (case a_law_many => k_is)
    (case l_law_many => k_is)
    (case c_law_many => k_is)
    (case k_law_many => k_is)
    (case a_Walk_script => k_is)
    (case i_Walk_script => k_is)
    (case l_Walk_script => k_is)
    (case c_Walk_script => k_is)
    (case k_Walk_script => k_is)
    (case a_law_made => k_is)
    (case l_law_made => k_is)
    (case c_law_made => k_is)
    (case k_law_made => k_is)
    (case a_law_refused => k_is)
    (case l_law_refused => k_is)
    (case c_law_refused => k_is)
    (case k_law_refused => k_is)
    (case a_law_script => k_is)
    (case l_law_script => k_is)
    (case c_law_script => k_is)
    (case k_law_script => k_is)
    (case a_law_alike => k_is)
    (case l_law_alike => k_is)
    (case c_law_alike => k_is)
    (case k_law_alike => k_is)
    (case a_law => k_is)
    (case l_law => k_is)
    (case c_law => k_is)
    (case k_law => k_is)
    (case a_TURNS => k_is)
    (case l_TURNS => k_is)
    (case a_PLACES => k_is)
    (case l_PLACES => k_is)
    (case a_WORDS => k_is)
    (case l_WORDS => k_is)
    (case a_TAKEN => k_is)
    (case l_TAKEN => k_is)
    (case nT1 => k_is)
    (case nT2 => k_is)
    (case nT3 => k_is)
    (case a_MOST_WHEELS => k_is)
    (case a_MOST_STEPS => k_is)
    (case a_LEAST_SIZE => k_is)
    (case a_MOST_SIZE => k_is)
