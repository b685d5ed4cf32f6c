import PyProof.Rows.All
import Wide.All
import OpenK.AllK
import Wide.FinOn
import HandS.ForMost
import HandS.Star
import HandS.TupMul
import HandS.TupAny
import HandS.IsInst
import HandS.Wide
import HandS.WordsExc
import HandS.More
import KE.GoesEnum
import HandS.Style
import HandS.DictComp
import HandS.TupLen
import HandS.Deep
import HandS.Zip
import HandS.Property
import HandS.OwnEq
import KE.SortCalls
import KE.KTupSum
import KE.KRevSl
import KE.KDictZip
import PyProof.FactsSeq
import KE.KExcSuper
import HandS.ExcInit
import HandS.ExcSuper
import HandS.ExcOwn
import HandS.TryOnly
import HandS.TryMany
import HandS.RaiseMore
import HandS.Codes
import PySem.Challenge.RW_wheelsizes_k18_asked_again
set_option Elab.async false
set_option linter.all false
set_option maxRecDepth 100000
section
open PySem PySem.W PyProof.Rows
set_option maxHeartbeats 0
open_top topK for PySem.Challenge.rw_wheelsizes_k18_asked_again
end
/-! my own frame: how heaps grow, tuple data, one lemma a piece of a reading -/
namespace WZ
open PySem PySem.Spec PyProof.Rows L2 StX

/-! ### how a heap goes on: all but M stands, tuples and frozen things stand always -/
structure Kp (M : List Addr) (H H' : Hp) : Prop where
  keep : ∀ b o, H b = some o → b ∉ M → H' b = some o
  tups : ∀ b xs, H b = some (.tup xs) → H' b = some (.tup xs)
  frzs : ∀ b o u, H b = some (.frz o u) → H' b = some (.frz o u)
  ther : ∀ b o, H b = some o → ∃ o', H' b = some o'
theorem Kp.refl {M : List Addr} (H : Hp) : Kp M H H := ⟨fun _ _ h _ => h, fun _ _ h => h, fun _ _ _ h => h, fun _ o h => ⟨o, h⟩⟩
theorem Kp.none {M : List Addr} {H H' : Hp} (k : Kp M H H') {l : Addr} (h : H' l = Option.none) : H l = Option.none := by
  cases q : H l with
  | none => rfl
  | some o =>
    obtain ⟨o', e⟩ := k.ther l o q
    rw [e] at h
    cases h
theorem Kp.trans {M : List Addr} {H H1 H2 : Hp} (a : Kp M H H1) (b : Kp M H1 H2) : Kp M H H2 :=
  ⟨fun c o h n => b.keep c o (a.keep c o h n) n, fun c xs h => b.tups c xs (a.tups c xs h), fun c o u h => b.frzs c o u (a.frzs c o u h), fun c o h => let ⟨o1, h1⟩ := a.ther c o h; b.ther c o1 h1⟩
theorem Kp.up {M M' : List Addr} {H H' : Hp} (s : ∀ x, x ∈ M → x ∈ M') (a : Kp M H H') : Kp M' H H' := ⟨fun b o h n => a.keep b o h fun z => n (s b z), a.tups, a.frzs, a.ther⟩
/-- one step more: what it touches is allowed, or was not there -/
theorem Kp.step {M M' : List Addr} {H H1 H2 : Hp} (a : Kp M H H1) (b : Kp M' H1 H2) (s : ∀ x, x ∈ M' → x ∈ M ∨ H x = Option.none) : Kp M H H2 := by
  refine ⟨fun c o h n => ?_, fun c xs h => b.tups c xs (a.tups c xs h), fun c o u h => b.frzs c o u (a.frzs c o u h), fun c o h => let ⟨o1, h1⟩ := a.ther c o h; b.ther c o1 h1⟩
  refine b.keep c o (a.keep c o h n) fun z => ?_
  rcases s c z with q | q
  · exact n q
  · rw [h] at q
    cases q
theorem Kp.step0 {M : List Addr} {H H1 H2 : Hp} (a : Kp M H H1) (b : Kp [] H1 H2) : Kp M H H2 := a.step b fun _ z => nomatch z
theorem Kp.step1 {M : List Addr} {H H1 H2 : Hp} {l : Addr} (a : Kp M H H1) (b : Kp [l] H1 H2) (s : l ∈ M ∨ H l = Option.none) : Kp M H H2 := a.step b fun x z => by
  rw [List.mem_singleton] at z
  rw [z]
  exact s
/-- what was there is there -/
def Th (H H' : Hp) : Prop := ∀ b o, H b = some o → ∃ o', H' b = some o'
theorem Th.refl (H : Hp) : Th H H := fun _ o h => ⟨o, h⟩
theorem Th.trans {H H1 H2 : Hp} (a : Th H H1) (b : Th H1 H2) : Th H H2 := fun c o h => let ⟨o1, h1⟩ := a c o h; b c o1 h1
theorem Kp.th {M : List Addr} {H H' : Hp} (k : Kp M H H') : Th H H' := k.ther
theorem Th.none {H H' : Hp} (k : Th H H') {l : Addr} (h : H' l = Option.none) : H l = Option.none := by
  cases q : H l with
  | none => rfl
  | some o =>
    obtain ⟨o', e⟩ := k l o q
    rw [e] at h
    cases h
theorem Kp.step2 {M : List Addr} {H H1 H2 : Hp} {l m : Addr} (a : Kp M H H1) (b : Kp [l, m] H1 H2) (s : l ∈ M ∨ H l = Option.none) (s' : m ∈ M ∨ H m = Option.none) : Kp M H H2 := a.step b fun x z => by
  rcases List.mem_cons.mp z with z | z
  · rw [z]
    exact s
  · rw [List.mem_singleton] at z
    rw [z]
    exact s'
theorem Kp.new {M : List Addr} {H : Hp} {p : Addr} {o : HO} (h : H p = Option.none) : Kp M H (upd H p o) := by
  have f : ∀ b u, H b = some u → upd H p o b = some u := fun b u q => by
    rw [upd_ne (ne_of_none q h)]
    exact q
  exact ⟨fun b u q _ => f b u q, fun b xs q => f b _ q, fun b o u q => f b _ q, fun b u q => ⟨u, f b u q⟩⟩
theorem Kp.write {H : Hp} {l : Addr} {xs ys : List V} (h : H l = some (.lst xs)) : Kp [l] H (upd H l (.lst ys)) := by
  have f : ∀ b u, H b = some u → b ≠ l → upd H l (.lst ys) b = some u := fun b u q n => by
    rw [upd_ne n]
    exact q
  refine ⟨fun b u q n => f b u q (by simpa using n), fun b xs q => f b _ q (ne_of q h (by intro z; cases z)), fun b o u q => f b _ q (ne_of q h (by intro z; cases z)), fun b u q => ?_⟩
  by_cases e : b = l
  · subst e
    exact ⟨_, upd_same⟩
  · exact ⟨u, f b u q e⟩
theorem Kp.writeI {H : Hp} {l C dx : Addr} {fs gs : List (Str × V)} (h : H l = some (.ins C dx fs)) : Kp [l] H (upd H l (.ins C dx gs)) := by
  have f : ∀ b u, H b = some u → b ≠ l → upd H l (.ins C dx gs) b = some u := fun b u q n => by
    rw [upd_ne n]
    exact q
  refine ⟨fun b u q n => f b u q (by simpa using n), fun b xs q => f b _ q (ne_of q h (by intro z; cases z)), fun b o u q => f b _ q (ne_of q h (by intro z; cases z)), fun b u q => ?_⟩
  by_cases e : b = l
  · subst e
    exact ⟨_, upd_same⟩
  · exact ⟨u, f b u q e⟩
theorem Kp.sqT {K : PySem.W.Frag} {M : List Addr} {H H' : Hp} {a : Addr} {xs : List V} (k : Kp M H H') (h : SqT K H a xs) : SqT K H' a xs := by
  rcases h with (h | ⟨o, h⟩) | h
  · exact .inl (.inl (k.tups _ _ h))
  · exact .inl (.inr ⟨o, k.frzs _ _ _ h⟩)
  · exact .inr h
/-- a list that is read: frozen (the script), or written in the text -/
theorem Kp.at_ {M : List Addr} {H H' : Hp} {a : Addr} {o : HO} (k : Kp M H H') (h : H a = some o) (n : a ∉ M) : H' a = some o := k.keep _ _ h n
theorem Kp.tp {M : List Addr} {H H' : Hp} {a : Addr} {xs : List V} (k : Kp M H H') (h : H a = some (.tup xs)) : H' a = some (.tup xs) := k.tups _ _ h
theorem Kp.sqL {K : PySem.W.Frag} {M : List Addr} {H H' : Hp} {a : Addr} {xs : List V} (k : Kp M H H') (h : SqL K H a xs) (n : a ∉ M) : SqL K H' a xs := by
  rcases h with (h | ⟨o, h⟩) | h
  · exact .inl (.inl (k.keep _ _ h n))
  · exact .inl (.inr ⟨o, k.frzs _ _ _ h⟩)
  · exact .inr h
theorem notin1 {a b : Addr} (h : a ≠ b) : a ∉ ([b] : List Addr) := by simpa using h
theorem notin3 {a b c d : Addr} (h : a ≠ b) (h' : a ≠ c) (h'' : a ≠ d) : a ∉ ([b, c, d] : List Addr) := by simp [h, h', h'']
theorem notin2 {a b c : Addr} (h : a ≠ b) (h' : a ≠ c) : a ∉ ([b, c] : List Addr) := by simp [h, h']

/-! ### tuple data: what a value tells where it and all within it are vI, texts, bools, None, tuples -/
mutual
inductive Td (K : PySem.W.Frag) (H : Hp) : V → PyData → Prop
  | non : Td K H .non .none
  | bl (b : Bool) : Td K H (.bl b) (.bool b)
  | int (i : Int) : Td K H (.int i) (.int i)
  | str (x : Str) : Td K H (.str x) (.str x)
  | tup {a : Addr} {xs : List V} {ds : List PyData} : SqT K H a xs → TdA K H xs ds → Td K H (.ref a) (.tuple ds)
inductive TdA (K : PySem.W.Frag) (H : Hp) : List V → List PyData → Prop
  | nil : TdA K H [] []
  | cons {v : V} {vs : List V} {d : PyData} {ds : List PyData} : Td K H v d → TdA K H vs ds → TdA K H (v :: vs) (d :: ds)
end
section
variable {K : PySem.W.Frag} {M : List Addr} {H H' : Hp} {v : V} {vs : List V} {d : PyData} {ds : List PyData}
mutual
theorem Td.mono (f : ∀ a xs, SqT K H a xs → SqT K H' a xs) : ∀ {d : PyData} {v : V}, Td K H v d → Td K H' v d
  | _, _, .non => .non
  | _, _, .bl b => .bl b
  | _, _, .int i => .int i
  | _, _, .str x => .str x
  | _, _, .tup h t => .tup (f _ _ h) (TdA.mono f t)
theorem TdA.mono (f : ∀ a xs, SqT K H a xs → SqT K H' a xs) : ∀ {ds : List PyData} {vs : List V}, TdA K H vs ds → TdA K H' vs ds
  | _, _, .nil => .nil
  | _, _, .cons h t => .cons (Td.mono f h) (TdA.mono f t)
end
mutual
theorem Td.dp : ∀ {d : PyData} {v : V}, Td K H v d → Dp K H v d
  | _, _, .non => .non
  | _, _, .bl b => .bl b
  | _, _, .int i => .int i
  | _, _, .str x => .str x
  | _, _, .tup h t => .tup h (TdA.dp t)
theorem TdA.dp : ∀ {ds : List PyData} {vs : List V}, TdA K H vs ds → DpAll K H vs ds
  | _, _, .nil => .nil
  | _, _, .cons h t => .cons (Td.dp h) (TdA.dp t)
end
theorem Kp.td (k : Kp M H H') (h : Td K H v d) : Td K H' v d := h.mono fun _ _ q => k.sqT q
theorem Kp.tdA (k : Kp M H H') (h : TdA K H vs ds) : TdA K H' vs ds := h.mono fun _ _ q => k.sqT q
theorem TdA.length : ∀ {vs : List V} {ds : List PyData}, TdA K H vs ds → vs.length = ds.length
  | _, _, .nil => rfl
  | _, _, .cons _ t => by simp [t.length]
theorem TdA.get : ∀ {vs : List V} {ds : List PyData} {i : Nat} {d : PyData}, TdA K H vs ds → ds[i]? = some d → ∃ v, vs[i]? = some v ∧ Td K H v d
  | _, _, _, _, .nil, e => by simp at e
  | _, _, 0, _, .cons r _, e => by simp at e; subst e; exact ⟨_, rfl, r⟩
  | _, _, i + 1, d, .cons _ t, e => by
    obtain ⟨v, h1, h2⟩ := TdA.get (i := i) (d := d) t (by simpa using e)
    exact ⟨v, by simpa using h1, h2⟩
theorem TdA.app : ∀ {vs ws : List V} {ds es : List PyData}, TdA K H vs ds → TdA K H ws es → TdA K H (vs ++ ws) (ds ++ es)
  | _, _, _, _, .nil, s => s
  | _, _, _, _, .cons r t, s => .cons r (TdA.app t s)
theorem TdA.take : ∀ {vs : List V} {ds : List PyData} (n : Nat), TdA K H vs ds → TdA K H (vs.take n) (ds.take n)
  | _, _, 0, _ => .nil
  | _, _, _ + 1, .nil => .nil
  | _, _, n + 1, .cons r t => .cons r (TdA.take n t)
theorem TdA.drop : ∀ {vs : List V} {ds : List PyData} (n : Nat), TdA K H vs ds → TdA K H (vs.drop n) (ds.drop n)
  | _, _, 0, r => r
  | _, _, _ + 1, .nil => .nil
  | _, _, n + 1, .cons _ t => TdA.drop n t
theorem TdA.vI : ∀ ns : List Int, TdA K H (ns.map V.int) (ns.map PyData.int)
  | [] => .nil
  | n :: r => .cons (.int n) (TdA.vI r)
theorem Td.inv (h : Td K H v (.tuple ds)) : ∃ a xs, v = .ref a ∧ SqT K H a xs ∧ TdA K H xs ds := by
  cases h with
  | tup q t => exact ⟨_, _, rfl, q, t⟩
theorem Td.intInv {i : Int} (h : Td K H v (.int i)) : v = .int i := by cases h; rfl
theorem Td.strInv {x : Str} (h : Td K H v (.str x)) : v = .str x := by cases h; rfl
theorem TdA.vIInv : ∀ {ns : List Int} {vs : List V}, TdA K H vs (ns.map PyData.int) → vs = ns.map V.int
  | [], _, .nil => rfl
  | n :: r, _, .cons h t => by rw [h.intInv, t.vIInv]; rfl
end

/-- a tuple of the module's top -/
def KT (K : PySem.W.Frag) (a : Addr) (xs : List V) : Prop := ∀ H, SqT K H a xs
theorem KT.sq {K : PySem.W.Frag} {H : Hp} {a : Addr} {xs : List V} (h : KT K a xs) : SqT K H a xs := h H
/-! ### a tuple of vI -/
def vI (ns : List Int) : List V := ns.map V.int
def dInts (ns : List Int) : PyData := .tuple (ns.map PyData.int)
theorem vI_length (ns : List Int) : (vI ns).length = ns.length := List.length_map _
theorem vI_get {ns : List Int} {j : Nat} {z : Int} (h : ns[j]? = some z) : (vI ns)[j]? = some (.int z) := by
  unfold vI
  rw [List.getElem?_map, h]
  rfl
theorem vI_inj {a b : List Int} (h : vI a = vI b) : a = b := (List.map_inj_right (fun _ _ e => by cases e; rfl)).mp h
theorem Td.vI {K : PySem.W.Frag} {H : Hp} {a : Addr} {ns : List Int} (h : SqT K H a (vI ns)) : Td K H (.ref a) (dInts ns) := .tup h (TdA.vI ns)

/-! ### one lemma a piece of a reading; what comes next keeps a name of its own, so that no place is lost -/
def mkT (Q : VK) : List V → Hp → Prop := fun xs H => xs.length ≤ sizeLine ∧ ∀ p, H p = none → Q (.ref p) (upd H p (.tup xs))
def mkL (Q : VK) : List V → Hp → Prop := fun xs H => xs.length ≤ sizeLine ∧ ∀ p, H p = none → Q (.ref p) (upd H p (.lst xs))
def xBl (Q : Bool → Hp → Prop) : VK := fun x H => ∃ k, x = .bl k ∧ Q k H
def xInt (Q : Option Int → Hp → Prop) : VK := fun x H => ∃ i, x = .int i ∧ Q (some i) H
def cIf (A B : Hp → Prop) : Bool → Hp → Prop := fun b H => if b = true then A H else B H
def xIf (A B : Hp → Prop) : VK := fun x H => ∃ c, x = .bl c ∧ if c = true then A H else B H
def cNot (Q : Bool → Hp → Prop) : Bool → Hp → Prop := fun c H => Q (!c) H
def xNot (Q : VK) : VK := fun x H => ∃ c, x = .bl c ∧ Q (.bl (!c)) H
def xFld (K : PySem.W.Frag) (f : Str) (Q : VK) : VK := fun x H => ∃ a C dx fs v, x = .ref a ∧ H a = some (.ins C dx fs) ∧ Cls K C ∧ NoAttr K C f ∧ fs.lookup f = some v ∧ Q v H
def xPar (F : V → V → Hp → Prop) : List V → Hp → Prop := fun vs H => ∃ v w, vs = [v, w] ∧ F v w H
def xStar (K : PySem.W.Frag) (tl : TA) (σ : L2.St) (Q : List V → Hp → Prop) : VK := fun x H => ∃ p xs, x = V.ref p ∧ (SqT K H p xs ∨ SqL K H p xs) ∧ tl σ H fun ys H2 => Q (xs ++ ys) H2
def xBM (K : PySem.W.Frag) (T : String) (q : V → List V → Hp → VK → Prop) (tl : TA) (σ : L2.St) (Q : VK) : VK := fun x H => tyV K T x H ∧ tl σ H fun xs H2 => q x xs H2 Q
def xBM0 (K : PySem.W.Frag) (T : String) (q : V → List V → Hp → VK → Prop) (Q : VK) : VK := fun x H => tyV K T x H ∧ q x [] H Q
def rLenS (K : PySem.W.Frag) : List V → Hp → VK → Prop := fun xs H Q => ∃ p ys, xs = [.ref p] ∧ (SqL K H p ys ∨ SqT K H p ys) ∧ Q (.int ys.length) H
def rInt1 : List V → Hp → VK → Prop := fun xs H Q => (∃ i, xs = [.int i] ∧ Q (.int i) H) ∨ ∃ k, xs = [.bl k] ∧ Q (.int (if k then 1 else 0)) H
def rMax2 : List V → Hp → VK → Prop := fun xs H Q => ∃ i j, xs = [.int i, .int j] ∧ Q (.int (if j > i then j else i)) H
def rMin2 : List V → Hp → VK → Prop := fun xs H Q => ∃ i j, xs = [.int i, .int j] ∧ Q (.int (if j < i then j else i)) H
def rAbs : List V → Hp → VK → Prop := fun xs H Q => ∃ i, xs = [.int i] ∧ Q (.int (if i < 0 then -i else i)) H
def rListOf (K : PySem.W.Frag) : List V → Hp → VK → Prop := fun xs H Q => ∃ p ys, xs = [.ref p] ∧ (SqL K H p ys ∨ SqT K H p ys) ∧ ∀ l, H l = none → Q (.ref l) (upd H l (.lst ys))
def rTupOf (K : PySem.W.Frag) : List V → Hp → VK → Prop := fun xs H Q => ∃ p ys, xs = [.ref p] ∧ ((SqL K H p ys ∧ ∀ l, H l = none → Q (.ref l) (upd H l (.tup ys))) ∨ (SqT K H p ys ∧ Q (.ref p) H))
def rIsN : R2 := fun x y H Q => y = .non ∧ Q (.bl (decide (x = .non))) H
def rNotN : R2 := fun x y H Q => y = .non ∧ Q (.bl (!decide (x = .non))) H
section
variable {X : Cx}
theorem w_isN : OpR X (compareOp .Is) rIsN := op_isN
theorem w_notN : OpR X (compareOp .IsNot) rNotN := op_notN
theorem w_len : CallR X (.builtin "len") (rLenS X.K) := call_len_seq
theorem w_int : CallR X (.type "int") rInt1 := call_int1
theorem w_max2 (hc : X.calm = true) : CallR X (.builtin "max") rMax2 := call_max2 hc
theorem w_min2 (hc : X.calm = true) : CallR X (.builtin "min") rMin2 := call_min2 hc
theorem w_abs : CallR X (.builtin "abs") rAbs := call_abs
theorem w_list : CallR X (.type "list") (rListOf X.K) := call_list_of
theorem w_tuple : CallR X (.type "tuple") (rTupOf X.K) := call_tuple_of
end
section
variable {K : PySem.W.Frag} {σ : L2.St} {H : Hp} {D : Ends} {Q : VK} {v x y z : V} {ta tb te : TE} {t u : TS} {c tt : TT} {tl tr : TA} {r : R2}
theorem g_seq (k : t { D with nx := u D } σ H) : tSeq t u D σ H := k
theorem g_asg {i : Nat} (k : te σ H fun x H1 => D.nx (σ.set i (some x)) H1) : tAsg te (gName i) D σ H := k
theorem g_asgG {g : TG} (k : te σ H fun x H1 => g x σ H1 D.nx) : tAsg te g D σ H := k
theorem g_ret (k : te σ H D.rt) : tRet te D σ H := k
theorem g_retN (k : D.rt .non H) : tRetN D σ H := k
theorem g_ifS (k : c σ H (cIf (t D σ) (u D σ))) : tIfS c t u D σ H := k
theorem g_drop (k : te σ H fun _ H1 => D.nx σ H1) : tDrop te D σ H := k
theorem g_next (k : D.nx σ H) : tNext D σ H := k
theorem g_par {i j : Nat} (k : tl σ H (xPar fun v w H1 => D.nx ((σ.set i (some v)).set j (some w)) H1)) : tPar i j tl D σ H := k
theorem g_xPar {a b : V} {F : V → V → Hp → Prop} (k : F a b H) : xPar F [a, b] H := ⟨a, b, rfl, k⟩
theorem g_var {i : Nat} (h : σ[i]? = some (some v)) (k : Q v H) : tVar i σ H Q := ⟨v, h, k⟩
theorem g_c (k : Q v H) : tC v σ H Q := k
theorem g_op (k : ta σ H fun x H1 => tb σ H1 fun y H2 => r x y H2 Q) : tOp r ta tb σ H Q := k
theorem g_un {q : V → Hp → VK → Prop} (k : ta σ H fun x H1 => q x H1 Q) : tUn q ta σ H Q := k
theorem g_rI0 {g : Int → Int → V} {i j : Int} (k : Q (g i j) H) : rI0 g (.int i) (.int j) H Q := ⟨i, j, rfl, rfl, k⟩
theorem g_rI {C : Int → Int → Prop} {g : Int → Int → V} {i j : Int} (h : C i j) (k : Q (g i j) H) : rI C g (.int i) (.int j) H Q := ⟨i, j, rfl, rfl, h, k⟩
theorem g_rU {g : Int → V} {i : Int} (k : Q (g i) H) : rU g (.int i) H Q := ⟨i, rfl, k⟩
theorem g_rEq (h : scal x y = true) (k : Q (.bl (decide (x = y))) H) : rEq x y H Q := ⟨h, k⟩
theorem g_rNe (h : scal x y = true) (k : Q (.bl (!decide (x = y))) H) : rNe x y H Q := ⟨h, k⟩
theorem g_rEqI {i j : Int} (k : Q (.bl (decide (i = j))) H) : rEq (.int i) (.int j) H Q := ⟨rfl, by
  have e : decide (V.int i = V.int j) = decide (i = j) := decide_eq_decide.mpr ⟨fun h => V.int.inj h, fun h => congrArg V.int h⟩
  rw [e]
  exact k⟩
theorem g_rNeI {i j : Int} (k : Q (.bl (!decide (i = j))) H) : rNe (.int i) (.int j) H Q := ⟨rfl, by
  have e : decide (V.int i = V.int j) = decide (i = j) := decide_eq_decide.mpr ⟨fun h => V.int.inj h, fun h => congrArg V.int h⟩
  rw [e]
  exact k⟩
theorem g_rEqS {i j : Str} (k : Q (.bl (decide (i = j))) H) : rEq (.str i) (.str j) H Q := ⟨rfl, by
  have e : decide (V.str i = V.str j) = decide (i = j) := decide_eq_decide.mpr ⟨fun h => V.str.inj h, fun h => congrArg V.str h⟩
  rw [e]
  exact k⟩
theorem g_rNeS {i j : Str} (k : Q (.bl (!decide (i = j))) H) : rNe (.str i) (.str j) H Q := ⟨rfl, by
  have e : decide (V.str i = V.str j) = decide (i = j) := decide_eq_decide.mpr ⟨fun h => V.str.inj h, fun h => congrArg V.str h⟩
  rw [e]
  exact k⟩
theorem g_rEqD {d e : PyData} (h1 : Td K H x d) (h2 : Td K H y e) (s1 : SeqAt.shaped d = true) (s2 : SeqAt.shaped e = true) (k : Q (.bl (PyData.eqv d e)) H) : rEqD K x y H Q := ⟨d, e, h1.dp, h2.dp, s1, s2, k⟩
theorem g_rNeD {d e : PyData} (h1 : Td K H x d) (h2 : Td K H y e) (s1 : SeqAt.shaped d = true) (s2 : SeqAt.shaped e = true) (k : Q (.bl (!PyData.eqv d e)) H) : rNeD K x y H Q := ⟨d, e, h1.dp, h2.dp, s1, s2, k⟩
theorem g_rEqDp {d e : PyData} (h1 : Dp K H x d) (h2 : Dp K H y e) (s1 : SeqAt.shaped d = true) (s2 : SeqAt.shaped e = true) (k : Q (.bl (PyData.eqv d e)) H) : rEqD K x y H Q := ⟨d, e, h1, h2, s1, s2, k⟩
theorem g_rNeDp {d e : PyData} (h1 : Dp K H x d) (h2 : Dp K H y e) (s1 : SeqAt.shaped d = true) (s2 : SeqAt.shaped e = true) (k : Q (.bl (!PyData.eqv d e)) H) : rNeD K x y H Q := ⟨d, e, h1, h2, s1, s2, k⟩
theorem g_nil {Q : List V → Hp → Prop} (k : Q [] H) : tNil σ H Q := k
theorem g_cons {Q : List V → Hp → Prop} (k : te σ H fun x H1 => tr σ H1 fun xs H2 => Q (x :: xs) H2) : tCons te tr σ H Q := k
theorem g_tTest {Q : Bool → Hp → Prop} (k : te σ H (xBl Q)) : tTest te σ H Q := k
theorem g_tB {Q : Bool → Hp → Prop} (k : te σ H (xBl Q)) : tB te σ H Q := k
theorem g_xBl {b : Bool} {Q : Bool → Hp → Prop} (k : Q b H) : xBl Q (.bl b) H := ⟨b, rfl, k⟩
theorem g_xInt {b : Int} {Q : Option Int → Hp → Prop} (k : Q (some b) H) : xInt Q (.int b) H := ⟨b, rfl, k⟩
theorem g_and {Q : Bool → Hp → Prop} {t u : TT} (k : t σ H (cIf (fun H1 => u σ H1 Q) (Q false))) : tAnd t u σ H Q := k
theorem g_or {Q : Bool → Hp → Prop} {t u : TT} (k : t σ H (cIf (Q true) fun H1 => u σ H1 Q)) : tOr t u σ H Q := k
theorem g_not {Q : Bool → Hp → Prop} {t : TT} (k : t σ H (cNot Q)) : tNot t σ H Q := k
theorem g_cNot {b : Bool} {Q : Bool → Hp → Prop} (k : Q (!b) H) : cNot Q b H := k
theorem g_andV (k : ta σ H (xIf (fun H1 => tb σ H1 Q) (Q (.bl false)))) : tAndV ta tb σ H Q := k
theorem g_orV (k : ta σ H (xIf (Q (.bl true)) fun H1 => tb σ H1 Q)) : tOrV ta tb σ H Q := k
theorem g_notV (k : ta σ H (xNot Q)) : tNotV ta σ H Q := k
theorem g_xNot {b : Bool} (k : Q (.bl (!b)) H) : xNot Q (.bl b) H := ⟨b, rfl, k⟩
theorem g_xIf {b : Bool} {A B : Hp → Prop} (k : cIf A B b H) : xIf A B (.bl b) H := ⟨b, rfl, k⟩
theorem g_tIf (k : c σ H (cIf (fun H1 => ta σ H1 Q) fun H1 => tb σ H1 Q)) : tIf c ta tb σ H Q := k
theorem g_chain {r' : R2} {tc : TE} (k : ta σ H fun x H1 => tb σ H1 fun y H2 => r x y H2 (xIf (fun H3 => tc σ H3 fun u H4 => r' y u H4 Q) (Q (.bl false)))) : tChain r r' ta tb tc σ H Q := k
theorem g_call {sp : Sp} {E : XK} (k : tl σ H fun vs H1 => sp vs H1 Q E) : tCall sp [] E tl σ H Q := by
  have e : (fun (vs : List V) (H1 : Hp) => sp (vs ++ []) H1 Q E) = fun vs H1 => sp vs H1 Q E := by
    funext vs H1
    rw [List.append_nil]
  show tl σ H (fun vs H1 => sp (vs ++ []) H1 Q E)
  rw [e]
  exact k
theorem g_cb {q : List V → Hp → VK → Prop} (k : tl σ H fun vs H1 => q vs H1 Q) : tCB q tl σ H Q := k
theorem g_tup (k : tl σ H (mkT Q)) : tTup tl σ H Q := k
theorem g_lst (k : tl σ H (mkL Q)) : tLst tl σ H Q := k
/-- a new object -/
theorem g_newT {xs : List V} (k : ∀ p H2, H p = none → Kp [] H H2 → H2 p = some (.tup xs) → Q (.ref p) H2) : ∀ p, H p = none → Q (.ref p) (upd H p (.tup xs)) := fun p n => k p _ n (Kp.new n) upd_same
theorem g_newL {xs : List V} (k : ∀ p H2, H p = none → Kp [] H H2 → H2 p = some (.lst xs) → Q (.ref p) H2) : ∀ p, H p = none → Q (.ref p) (upd H p (.lst xs)) := fun p n => k p _ n (Kp.new n) upd_same
theorem lenOk {n : Nat} (h : Nat.ble n 1000000 = true) : n ≤ 1000000 := Nat.le_of_ble_eq_true h
theorem le_line {n : Nat} (h : n ≤ 1000000) : n ≤ sizeLine := Nat.le_trans h (by decide)
theorem lt_line {n : Nat} (h : n ≤ 1000000) : n < sizeLine := Nat.lt_of_le_of_lt h (by decide)
theorem g_mkT {xs : List V} (h : xs.length ≤ 1000000) (k : ∀ p H2, H p = none → Kp [] H H2 → H2 p = some (.tup xs) → Q (.ref p) H2) : mkT Q xs H := ⟨le_line h, g_newT k⟩
theorem g_mkL {xs : List V} (h : xs.length ≤ 1000000) (k : ∀ p H2, H p = none → Kp [] H H2 → H2 p = some (.lst xs) → Q (.ref p) H2) : mkL Q xs H := ⟨le_line h, g_newL k⟩
theorem g_star {Q : List V → Hp → Prop} (k : te σ H (xStar K tr σ Q)) : tStar K te tr σ H Q := k
theorem g_xStarT {p : Addr} {xs : List V} {Q : List V → Hp → Prop} (h : SqT K H p xs) (k : tl σ H fun ys H2 => Q (xs ++ ys) H2) : xStar K tl σ Q (.ref p) H := ⟨p, xs, rfl, .inl h, k⟩
theorem g_xStarL {p : Addr} {xs : List V} {Q : List V → Hp → Prop} (h : SqL K H p xs) (k : tl σ H fun ys H2 => Q (xs ++ ys) H2) : xStar K tl σ Q (.ref p) H := ⟨p, xs, rfl, .inr h, k⟩
theorem g_ixT {p : Addr} {xs : List V} {i : Int} (h : SqT K H p xs) (ha : atI xs i = some v) (k : Q v H) : rIxT K (.ref p) (.int i) H Q := ⟨p, xs, i, v, rfl, rfl, h, ha, k⟩
theorem g_ixL {p : Addr} {xs : List V} {i : Int} (h : SqL K H p xs) (ha : atI xs i = some v) (k : Q v H) : rIxL K (.ref p) (.int i) H Q := ⟨p, xs, i, v, rfl, rfl, h, ha, k⟩
theorem g_sl {q : V → Option Int → Option Int → Hp → VK → Prop} {lo hi : TO} (k : te σ H fun x H1 => lo σ H1 fun l H2 => hi σ H2 fun u H3 => q x l u H3 Q) : tSl q te lo hi σ H Q := k
theorem g_noPart {Q : Option Int → Hp → Prop} (k : Q none H) : tNoPart σ H Q := k
theorem g_part {Q : Option Int → Hp → Prop} (k : te σ H (xInt Q)) : tPart te σ H Q := k
theorem g_fld {f : Str} (k : ta σ H (xFld K f Q)) : tFld K ta f σ H Q := k
theorem g_xFld {f : Str} {a C dx : Addr} {fs : List (Str × V)} (h : H a = some (.ins C dx fs)) (c : Cls K C) (n : NoAttr K C f) (l : fs.lookup f = some v) (k : Q v H) : xFld K f Q (.ref a) H := ⟨a, C, dx, fs, v, rfl, h, c, n, l, k⟩
theorem g_gSub {to ti : TE} {s : TSet} {Q : L2.St → Hp → Prop} (k : to σ H fun o H1 => ti σ H1 fun i H2 => s o i v H2 fun H3 => Q σ H3) : gSub to ti s v σ H Q := k
theorem g_setL {p : Addr} {xs : List V} {i : Int} {j : Nat} {Q : Hp → Prop} (h : H p = some (.lst xs)) (hj : ixN xs.length i = some j) (k : ∀ H2, Kp [p] H H2 → H2 p = some (.lst (xs.set j v)) → Q H2) : rSetL (.ref p) (.int i) v H Q :=
  ⟨p, xs, i, j, rfl, rfl, h, hj, k _ (Kp.write h) upd_same⟩
theorem g_append {p : Addr} {xs : List V} (h : H p = some (.lst xs)) (hz : xs.length ≤ 1000000) (k : ∀ H2, Kp [p] H H2 → H2 p = some (.lst (xs ++ [v])) → Q .non H2) : rAppend (.ref p) [v] H Q :=
  ⟨p, xs, v, rfl, rfl, h, lt_line hz, k _ (Kp.write h) upd_same⟩
theorem g_extend {p b : Addr} {xs ys : List V} (h : H p = some (.lst xs)) (h' : H b = some (.lst ys)) (hz : xs.length + ys.length ≤ 1000000) (k : ∀ H2, Kp [p] H H2 → H2 p = some (.lst (xs ++ ys)) → Q .non H2) : rExtend (.ref p) [.ref b] H Q :=
  ⟨p, b, xs, ys, rfl, rfl, h, h', le_line hz, k _ (Kp.write h) upd_same⟩
theorem g_bm {T : String} {q : V → List V → Hp → VK → Prop} (k : ta σ H (xBM K T q tl σ Q)) : tBM K T q ta tl σ H Q := k
theorem g_bm0 {T : String} {q : V → List V → Hp → VK → Prop} (k : ta σ H (xBM0 K T q Q)) : tBM0 K T q ta σ H Q := k
theorem g_xBML {p : Addr} {ys : List V} {q : V → List V → Hp → VK → Prop} (h : SqL K H p ys) (k : tl σ H fun xs H2 => q (.ref p) xs H2 Q) : xBM K "list" q tl σ Q (.ref p) H := ⟨.inl ⟨rfl, _, h⟩, k⟩
theorem g_xBM0L {p : Addr} {ys : List V} {q : V → List V → Hp → VK → Prop} (h : SqL K H p ys) (k : q (.ref p) [] H Q) : xBM0 K "list" q Q (.ref p) H := ⟨.inl ⟨rfl, _, h⟩, k⟩
theorem g_cat {p b : Addr} {xs ys : List V} (h : H p = some (.lst xs)) (h' : H b = some (.lst ys)) (hz : xs.length + ys.length ≤ 1000000) (k : ∀ q H2, H q = none → Kp [] H H2 → H2 q = some (.lst (xs ++ ys)) → Q (.ref q) H2) : rCat (.ref p) (.ref b) H Q :=
  ⟨p, b, xs, ys, rfl, rfl, h, h', le_line hz, g_newL k⟩
/-- t + u of tuples: a tuple, of both -/
theorem g_catA {p b : Addr} {xs ys : List V} (h : SqT K H p xs) (h' : SqT K H b ys) (hz : xs.length + ys.length ≤ 1000000) (k : ∀ q H2, Kp [] H H2 → SqT K H2 q (xs ++ ys) → Q (.ref q) H2) : rCatA K (.ref p) (.ref b) H Q := by
  refine ⟨p, b, xs, ys, rfl, rfl, h, h', le_line hz, fun e => ?_, fun _ e => ?_, fun _ _ q n => k q _ (Kp.new n) (SqT.of upd_same)⟩
  · subst e
    exact k b H (Kp.refl H) h'
  · subst e
    exact k p H (Kp.refl H) (by rw [List.append_nil]; exact h)
theorem g_lenL {p : Addr} {xs : List V} (h : SqL K H p xs) (k : Q (.int xs.length) H) : rLenS K [V.ref p] H Q := ⟨p, xs, rfl, .inl h, k⟩
theorem g_lenT {p : Addr} {xs : List V} (h : SqT K H p xs) (k : Q (.int xs.length) H) : rLenS K [V.ref p] H Q := ⟨p, xs, rfl, .inr h, k⟩
theorem g_int1 {i : Int} (k : Q (.int i) H) : rInt1 [V.int i] H Q := .inl ⟨i, rfl, k⟩
theorem g_max2 {i j : Int} (k : Q (.int (if j > i then j else i)) H) : rMax2 [V.int i, .int j] H Q := ⟨i, j, rfl, k⟩
theorem g_min2 {i j : Int} (k : Q (.int (if j < i then j else i)) H) : rMin2 [V.int i, .int j] H Q := ⟨i, j, rfl, k⟩
theorem g_abs {i : Int} (k : Q (.int (if i < 0 then -i else i)) H) : rAbs [V.int i] H Q := ⟨i, rfl, k⟩
theorem g_listL {p : Addr} {xs : List V} (h : SqL K H p xs) (k : ∀ l H2, H l = none → Kp [] H H2 → H2 l = some (.lst xs) → Q (.ref l) H2) : rListOf K [V.ref p] H Q := ⟨p, xs, rfl, .inl h, g_newL k⟩
theorem g_listT {p : Addr} {xs : List V} (h : SqT K H p xs) (k : ∀ l H2, H l = none → Kp [] H H2 → H2 l = some (.lst xs) → Q (.ref l) H2) : rListOf K [V.ref p] H Q := ⟨p, xs, rfl, .inr h, g_newL k⟩
theorem g_tupL {p : Addr} {xs : List V} (h : SqL K H p xs) (k : ∀ l H2, H l = none → Kp [] H H2 → H2 l = some (.tup xs) → Q (.ref l) H2) : rTupOf K [V.ref p] H Q := ⟨p, xs, rfl, .inl ⟨h, g_newT k⟩⟩
theorem g_slA {a : Addr} {xs : List V} {lo hi : Option Int} (h : SqT K H a xs) (k : ∀ q H2, Kp [] H H2 → SqT K H2 q (cutV xs lo hi) → Q (.ref q) H2) : rSlA K (.ref a) lo hi H Q := by
  refine ⟨a, xs, rfl, h, fun ⟨e1, e2⟩ => k a H (Kp.refl H) ?_, fun _ p n => k p _ (Kp.new n) (SqT.of upd_same)⟩
  unfold cutV
  rw [e1, e2, List.drop_zero, Nat.sub_zero, List.take_length]
  exact h
theorem g_slL {a : Addr} {xs : List V} {lo hi : Option Int} (h : SqL K H a xs) (k : ∀ q H2, H q = none → Kp [] H H2 → H2 q = some (.lst (cutV xs lo hi)) → Q (.ref q) H2) : rSlL K (.ref a) lo hi H Q := ⟨a, xs, rfl, h, g_newL k⟩
theorem g_sum {a : Addr} {ns : List Int} (h : SqL K H a (ns.map V.int)) (k : Q (.int ns.sum) H) : rSum K [.ref a] H Q := ⟨a, ns, rfl, h, k⟩
theorem g_all {a : Addr} {bs : List Bool} (h : SqL K H a (bs.map V.bl)) (k : Q (.bl (bs.all id)) H) : rAll K [.ref a] H Q := ⟨a, bs, rfl, h, k⟩
theorem g_any {a : Addr} {bs : List Bool} (h : SqL K H a (bs.map V.bl)) (k : Q (.bl (bs.any id)) H) : rAny K [.ref a] H Q := ⟨a, bs, rfl, h, k⟩
theorem g_inT {x : V} {p : Addr} {xs : List V} (h : SqT K H p xs) (hx : flatV x = true) (ha : xs.all flatV = true) (k : Q (.bl (inV x xs)) H) : rIn K false x (.ref p) H Q := ⟨p, xs, rfl, .inr h, hx, ha, k⟩
theorem g_ninT {x : V} {p : Addr} {xs : List V} (h : SqT K H p xs) (hx : flatV x = true) (ha : xs.all flatV = true) (k : Q (.bl (!inV x xs)) H) : rIn K true x (.ref p) H Q := ⟨p, xs, rfl, .inr h, hx, ha, k⟩
theorem g_inL {x : V} {p : Addr} {xs : List V} (h : SqL K H p xs) (hx : flatV x = true) (ha : xs.all flatV = true) (k : Q (.bl (inV x xs)) H) : rIn K false x (.ref p) H Q := ⟨p, xs, rfl, .inl h, hx, ha, k⟩
theorem g_ixD {w : World} {p : Addr} {z : Str} (h : KDct K w p z v) (k : Q v H) : rIxD K w (.ref p) (.str z) H Q := ⟨p, z, v, rfl, rfl, h, k⟩
theorem g_ixSL {p : Addr} {xs : List V} {i : Int} (h : SqL K H p xs) (ha : atI xs i = some v) (k : Q v H) : rIx K (.ref p) (.int i) H Q := .inl (g_ixL h ha k)
theorem g_ixST {p : Addr} {xs : List V} {i : Int} (h : SqT K H p xs) (ha : atI xs i = some v) (k : Q v H) : rIx K (.ref p) (.int i) H Q := .inr (.inl (g_ixT h ha k))
theorem g_rIsN (k : Q (.bl (decide (x = .non))) H) : rIsN x .non H Q := ⟨rfl, k⟩
theorem g_rNotN (k : Q (.bl (!decide (x = .non))) H) : rNotN x .non H Q := ⟨rfl, k⟩
theorem g_then {b : Bool} {A B : Hp → Prop} (h : b = true) (k : A H) : cIf A B b H := by unfold cIf; rw [if_pos h]; exact k
theorem g_else {b : Bool} {A B : Hp → Prop} (h : b = false) (k : B H) : cIf A B b H := by unfold cIf; rw [if_neg (by rw [h]; exact Bool.false_ne_true)]; exact k
/-- both ways of a test -/
theorem g_both {p : Prop} [Decidable p] {A B : Hp → Prop} (h1 : p → A H) (h2 : ¬ p → B H) : cIf A B (decide p) H := by
  by_cases h : p
  · exact g_then (decide_eq_true h) (h1 h)
  · exact g_else (decide_eq_false h) (h2 h)
theorem g_bothN {p : Prop} [Decidable p] {A B : Hp → Prop} (h1 : ¬ p → A H) (h2 : p → B H) : cIf A B (!decide p) H := by
  by_cases h : p
  · exact g_else (by rw [decide_eq_true h]; rfl) (h2 h)
  · exact g_then (by rw [decide_eq_false h]; rfl) (h1 h)
theorem g_two {b : Bool} {A B : Hp → Prop} (h1 : b = true → A H) (h2 : b = false → B H) : cIf A B b H := by
  cases b with
  | true => exact g_then rfl (h1 rfl)
  | false => exact g_else rfl (h2 rfl)
end
/-! ### loops -/
def xItl (K : PySem.W.Frag) (R : It → Hp → Prop) : VK := fun x H1 => ∃ a, x = .ref a ∧ (∃ xs, SqL K H1 a xs) ∧ R (Itl K a) H1
def xItt (K : PySem.W.Frag) (R : It → Hp → Prop) : VK := fun x H1 => ∃ a, x = .ref a ∧ (∃ xs, SqT K H1 a xs) ∧ R (Itt K a) H1
def xRng1 (R : It → Hp → Prop) : List V → Hp → Prop := fun vs H1 => ∃ j : Int, vs = [.int j] ∧ -(2 ^ 62) ≤ j ∧ j < 2 ^ 62 ∧ R (Itr 0 j.toNat) H1
def xRng2 (R : It → Hp → Prop) : List V → Hp → Prop := fun vs H1 => ∃ i j : Int, vs = [.int i, .int j] ∧ (-(2 ^ 62) ≤ i ∧ i < 2 ^ 62 ∧ -(2 ^ 62) ≤ j ∧ j < 2 ^ 62) ∧ R (Itr i (j - i).toNat) H1
def xFor (g : TG) (tb : TS) (D : Ends) (σ : L2.St) : It → Hp → Prop := fun J H1 => ∃ W : Nat → Nat → L2.St → Hp → Prop, (∃ m, W 0 m σ H1) ∧ ∀ i m σ H, W i m σ H →
  (J.stop i H ∧ D.nx σ H) ∨ (J.go i H ∧ ∃ N : L2.St → Hp → Prop, (∀ σ' H', N σ' H' → ∃ m', m' < m ∧ W (i + 1) m' σ' H') ∧ ∀ x H', J.yld i H x H' → g x σ H' fun σ2 H2 => tb { D with nx := N, ct := N, bk := D.nx } σ2 H2)
def xWh (tb : TS) (D : Ends) (I : Nat → L2.St → Hp → Prop) (m : Nat) (σ : L2.St) : Bool → Hp → Prop := fun b H1 =>
  if b = true then ∃ N : L2.St → Hp → Prop, (∀ σ' H', N σ' H' → ∃ m', m' < m ∧ I m' σ' H') ∧ tb { D with nx := N, ct := N, bk := D.nx } σ H1 else D.nx σ H1
def xEl (D : Addr) (P : Hp → Prop) : VK := fun y H4 => ∃ acc, H4 D = some (.lst acc) ∧ acc.length < sizeLine ∧ P (upd H4 D (.lst (acc ++ [y])))
def accP (D : Addr) (N : List V → Hp → Prop) : Hp → Prop := fun H' => ∃ acc, H' D = some (.lst acc) ∧ N acc H'
def xTurn (tt : TT) (te : TE) (vs : List Nat) (σ : L2.St) (D : Addr) (P : Hp → Prop) : L2.St → Hp → Prop := fun σ2 H2 => wipe σ2 vs = wipe σ vs ∧ tt σ2 H2 (cIf (fun H3 => te σ2 H3 (xEl D P)) P)
def xLc (g : TG) (tt : TT) (te : TE) (vs : List Nat) (σ : L2.St) (Q : VK) : It → Hp → Prop := fun J H1 => ∀ D, H1 D = none → ∃ W : Nat → Nat → Hp → Prop, (∃ m, W 0 m (upd H1 D (.lst []))) ∧ ∀ i m H, W i m H →
  (J.stop i H ∧ Q (.ref D) H) ∨ (J.go i H ∧ ∃ Nx : Hp → Prop, (∀ H', Nx H' → ∃ m', m' < m ∧ W (i + 1) m' H') ∧ ∀ x H', J.yld i H x H' → g x (wipe σ vs) H' (xTurn tt te vs σ D Nx))
section
variable {K : PySem.W.Frag} {σ : L2.St} {H : Hp} {D : Ends} {Q : VK} {v x y z : V} {ta tb te tl : TE} {t u tw : TS} {c tt : TT} {ti tr : TA} {wi : TI} {g : TG} {R : It → Hp → Prop}
theorem g_for (k : wi σ H (xFor g tw D σ)) : tFor wi g tw D σ H := k
theorem g_iList (k : tl σ H (xItl K R)) : iList K tl σ H R := k
theorem g_iTup (k : tl σ H (xItt K R)) : iTup K tl σ H R := k
theorem g_iRng1 (k : ti σ H (xRng1 R)) : iRng1 ti σ H R := k
theorem g_iRng2 (k : ti σ H (xRng2 R)) : iRng2 ti σ H R := k
theorem g_xItl {a : Addr} {xs : List V} (h : SqL K H a xs) (k : R (Itl K a) H) : xItl K R (.ref a) H := ⟨a, rfl, ⟨xs, h⟩, k⟩
theorem g_xItt {a : Addr} {xs : List V} (h : SqT K H a xs) (k : R (Itt K a) H) : xItt K R (.ref a) H := ⟨a, rfl, ⟨xs, h⟩, k⟩
theorem g_xRng1 {j : Int} (h1 : -(2 ^ 62) ≤ j) (h2 : j < 2 ^ 62) (k : R (Itr 0 j.toNat) H) : xRng1 R [.int j] H := ⟨j, rfl, h1, h2, k⟩
theorem g_xRng2 {i j : Int} (h : -(2 ^ 62) ≤ i ∧ i < 2 ^ 62 ∧ -(2 ^ 62) ≤ j ∧ j < 2 ^ 62) (k : R (Itr i (j - i).toNat) H) : xRng2 R [.int i, .int j] H := ⟨i, j, rfl, h, k⟩
theorem g_loopL {a : Addr} {xs : List V} (I : Nat → L2.St → Hp → Prop) (h0 : I 0 σ H) (hl : ∀ i σ' H', i ≤ xs.length → I i σ' H' → SqL K H' a xs)
    (hs : ∀ i x σ' H', xs[i]? = some x → I i σ' H' → g x σ' H' fun σ2 H2 => tw { D with nx := I (i + 1), ct := I (i + 1), bk := D.nx } σ2 H2) (hd : ∀ σ' H', I xs.length σ' H' → D.nx σ' H') : xFor g tw D σ (Itl K a) H := for_list I h0 hl hs hd
theorem g_loopT {a : Addr} {xs : List V} (I : Nat → L2.St → Hp → Prop) (h0 : I 0 σ H) (hl : ∀ i σ' H', i ≤ xs.length → I i σ' H' → SqT K H' a xs)
    (hs : ∀ i x σ' H', xs[i]? = some x → I i σ' H' → g x σ' H' fun σ2 H2 => tw { D with nx := I (i + 1), ct := I (i + 1), bk := D.nx } σ2 H2) (hd : ∀ σ' H', I xs.length σ' H' → D.nx σ' H') : xFor g tw D σ (Itt K a) H := for_tup I h0 hl hs hd
theorem g_loopR {lo : Int} {n : Nat} (I : Nat → L2.St → Hp → Prop) (h0 : I 0 σ H)
    (hs : ∀ i σ' H', i < n → I i σ' H' → g (.int (lo + i)) σ' H' fun σ2 H2 => tw { D with nx := I (i + 1), ct := I (i + 1), bk := D.nx } σ2 H2) (hd : ∀ σ' H', I n σ' H' → D.nx σ' H') : xFor g tw D σ (Itr lo n) H := for_range I h0 hs hd
theorem g_while (I : Nat → L2.St → Hp → Prop) (h0 : ∃ m, I m σ H) (hs : ∀ m σ' H', I m σ' H' → c σ' H' (xWh tw D I m σ')) : tWhile c tw D σ H := ⟨I, h0, hs⟩
theorem g_whT {I : Nat → L2.St → Hp → Prop} {m : Nat} (k : tw { D with nx := fun σ' H' => ∃ m', m' < m ∧ I m' σ' H', ct := fun σ' H' => ∃ m', m' < m ∧ I m' σ' H', bk := D.nx } σ H) : xWh tw D I m σ true H := by
  unfold xWh
  rw [if_pos rfl]
  exact ⟨_, fun _ _ h => h, k⟩
theorem g_whF {I : Nat → L2.St → Hp → Prop} {m : Nat} (k : D.nx σ H) : xWh tw D I m σ false H := by
  unfold xWh
  rw [if_neg Bool.false_ne_true]
  exact k
theorem g_whB {p : Prop} [Decidable p] {I : Nat → L2.St → Hp → Prop} {m : Nat} (h1 : p → xWh tw D I m σ true H) (h2 : ¬ p → xWh tw D I m σ false H) : xWh tw D I m σ (decide p) H := by
  by_cases h : p
  · rw [decide_eq_true h]
    exact h1 h
  · rw [decide_eq_false h]
    exact h2 h
theorem g_gName {i : Nat} {Q : L2.St → Hp → Prop} (k : Q (σ.set i (some v)) H) : gName i v σ H Q := k
theorem g_gTup {a : Addr} {xs : List V} {n : Nat} {tg : TGs} {Q : L2.St → Hp → Prop} (h : SqT K H a xs) (hl : xs.length = n) (k : tg xs σ H Q) : gTup K n tg (.ref a) σ H Q := ⟨a, xs, rfl, h, hl, k⟩
theorem g_gCons {tg : TG} {ug : TGs} {r : List V} {Q : L2.St → Hp → Prop} (k : tg v σ H fun σ' H' => ug r σ' H' Q) : gCons tg ug (v :: r) σ H Q := ⟨v, r, rfl, k⟩
theorem g_gNil {Q : L2.St → Hp → Prop} (k : Q σ H) : gNil [] σ H Q := ⟨rfl, k⟩
/-! comprehensions -/
theorem g_lc {vs : List Nat} (k : wi σ H (xLc g tt te vs σ Q)) : tLc wi g tt te vs σ H Q := k
theorem g_xTurn {vs : List Nat} {σ2 : L2.St} {D : Addr} {P : Hp → Prop} (h : wipe σ2 vs = wipe σ vs) (k : tt σ2 H (cIf (fun H3 => te σ2 H3 (xEl D P)) P)) : xTurn tt te vs σ D P σ2 H := ⟨h, k⟩
theorem g_yes {P : Bool → Hp → Prop} (k : P true H) : tYes σ H P := k
theorem g_xEl {D : Addr} {acc : List V} {N : List V → Hp → Prop} (h : H D = some (.lst acc)) (hz : acc.length ≤ 1000000) (k : ∀ H5, Kp [D] H H5 → H5 D = some (.lst (acc ++ [y])) → N (acc ++ [y]) H5) : xEl D (accP D N) y H :=
  ⟨acc, h, lt_line hz, acc ++ [y], upd_same, k _ (Kp.write h) upd_same⟩
theorem g_accP {D : Addr} {acc : List V} {N : List V → Hp → Prop} (h : H D = some (.lst acc)) (k : N acc H) : accP D N H := ⟨acc, h, k⟩
theorem g_compL {a : Addr} {xs : List V} {vs : List Nat} (G : Addr → Nat → List V → Hp → Prop) (h0 : ∀ D H1, H D = none → Kp [] H H1 → G D 0 [] H1) (hl : ∀ D i acc H', i ≤ xs.length → G D i acc H' → SqL K H' a xs)
    (hs : ∀ D i x acc H', H D = none → xs[i]? = some x → H' D = some (.lst acc) → G D i acc H' → g x (wipe σ vs) H' (xTurn tt te vs σ D (accP D (G D (i + 1)))))
    (hd : ∀ D acc H', H D = none → H' D = some (.lst acc) → G D xs.length acc H' → Q (.ref D) H') : xLc g tt te vs σ Q (Itl K a) H := fun D hD =>
  lc_list (K := K) (a := a) (xs := xs) (fun i => accP D (G D i)) ⟨[], upd_same, h0 D _ hD (Kp.new hD)⟩ (fun i H' hi ⟨acc, _, q⟩ => hl D i acc H' hi q) (fun i x H' hx ⟨acc, e, q⟩ => hs D i x acc H' hD hx e q) fun H' ⟨acc, e, q⟩ => hd D acc H' hD e q
theorem g_compT {a : Addr} {xs : List V} {vs : List Nat} (G : Addr → Nat → List V → Hp → Prop) (h0 : ∀ D H1, H D = none → Kp [] H H1 → G D 0 [] H1) (hl : ∀ D i acc H', i ≤ xs.length → G D i acc H' → SqT K H' a xs)
    (hs : ∀ D i x acc H', H D = none → xs[i]? = some x → H' D = some (.lst acc) → G D i acc H' → g x (wipe σ vs) H' (xTurn tt te vs σ D (accP D (G D (i + 1)))))
    (hd : ∀ D acc H', H D = none → H' D = some (.lst acc) → G D xs.length acc H' → Q (.ref D) H') : xLc g tt te vs σ Q (Itt K a) H := fun D hD =>
  lc_tup (K := K) (a := a) (xs := xs) (fun i => accP D (G D i)) ⟨[], upd_same, h0 D _ hD (Kp.new hD)⟩ (fun i H' hi ⟨acc, _, q⟩ => hl D i acc H' hi q) (fun i x H' hx ⟨acc, e, q⟩ => hs D i x acc H' hD hx e q) fun H' ⟨acc, e, q⟩ => hd D acc H' hD e q
theorem g_compR {lo : Int} {n : Nat} {vs : List Nat} (G : Addr → Nat → List V → Hp → Prop) (h0 : ∀ D H1, H D = none → Kp [] H H1 → G D 0 [] H1)
    (hs : ∀ D i acc H', H D = none → i < n → H' D = some (.lst acc) → G D i acc H' → g (.int (lo + i)) (wipe σ vs) H' (xTurn tt te vs σ D (accP D (G D (i + 1)))))
    (hd : ∀ D acc H', H D = none → H' D = some (.lst acc) → G D n acc H' → Q (.ref D) H') : xLc g tt te vs σ Q (Itr lo n) H := fun D hD =>
  lc_range (lo := lo) (n := n) (fun i => accP D (G D i)) ⟨[], upd_same, h0 D _ hD (Kp.new hD)⟩ (fun i H' hi ⟨acc, e, q⟩ => hs D i acc H' hD hi e q) fun H' ⟨acc, e, q⟩ => hd D acc H' hD e q
end
/-! ### the same rules, the written part said by its own name (within a comprehension) -/
section
variable {X : Cx} {K : PySem.W.Frag} {te tl : TE} {t : TA} {e l tg : Expr} {es : List Expr} {p pos : Pos} {f : Str}
theorem ix_listK (h : X.K = K := by rfl) : IxR X (rIxL K) := h ▸ ix_list
theorem ix_tupK (h : X.K = K := by rfl) : IxR X (rIxT K) := h ▸ ix_tup
theorem w_lenK (h : X.K = K := by rfl) : CallR X (.builtin "len") (rLenS K) := h ▸ w_len
theorem w_listK (h : X.K = K := by rfl) : CallR X (.type "list") (rListOf K) := h ▸ w_list
theorem w_tupleK (h : X.K = K := by rfl) : CallR X (.type "tuple") (rTupOf K) := h ▸ w_tuple
theorem w_isiK (h : X.K = K := by rfl) : CallR X (.builtin "isinstance") (rIsi K) := h ▸ call_isi
theorem ix_kdictK {w : World} (h : X.K = K := by rfl) (h' : X.w = w := by rfl) : IxR X (rIxD K w) := h ▸ h' ▸ ix_kdict
theorem w_isiTK (h : X.K = K := by rfl) : CallR X (.builtin "isinstance") (rIsiT K) := h ▸ call_isiT
theorem ix_seqK (h : X.K = K := by rfl) : IxR X (rIx K) := h ▸ ix_seq
theorem sl_listK (h : X.K = K := by rfl) : SlR X (rSlL K) := h ▸ sl_list
theorem sl_tupAK (h : X.K = K := by rfl) : SlR X (rSlA K) := h ▸ sl_tupA
theorem op_catAK (h : X.K = K := by rfl) : OpR X (binaryOp .Add) (rCatA K) := h ▸ op_catA
theorem op_inK (h : X.K = K := by rfl) : OpR X (compareOp .In) (rIn K false) := h ▸ op_in_seq
theorem op_notInK (h : X.K = K := by rfl) : OpR X (compareOp .NotIn) (rIn K true) := h ▸ op_notIn_seq
theorem op_eqDK {k : Nat} (hr : Room k X.A) (h : X.K = K := by rfl) : OpR X (compareOp .Eq) (rEqD K) := h ▸ op_eqD hr.units
theorem op_neDK {k : Nat} (hr : Room k X.A) (h : X.K = K := by rfl) : OpR X (compareOp .NotEq) (rNeD K) := h ▸ op_neD hr.units
theorem cr_sumK (hc : X.calm = true) (h : X.K = K := by rfl) : CallR X (.builtin "sum") (rSum K) := h ▸ cr_sum hc
theorem cr_allK (hc : X.calm = true) (h : X.K = K := by rfl) : CallR X (.builtin "all") (rAll K) := h ▸ cr_all hc
theorem cr_anyK (hc : X.calm = true) (h : X.K = K := by rfl) : CallR X (.builtin "any") (rAny K) := h ▸ cr_any hc
theorem cr_maxK (hc : X.calm = true) (h : X.K = K := by rfl) : CallR X (.builtin "max") (rMax K) := h ▸ cr_max hc
theorem pi_listK (hl : PE X l tl) (h : X.K = K := by rfl) : PI X tg l (iList K tl) := h ▸ pi_list hl
theorem pi_tupK (hl : PE X l tl) (h : X.K = K := by rfl) : PI X tg l (iTup K tl) := h ▸ pi_tup hl
theorem pa_starK (he : PE X e te) (hr : PA X es t) (h : X.K = K := by rfl) (hs : starEach (.Starred e p :: es) X.env = (true, eval e X.env) :: starEach es X.env := by rfl) : PA X (.Starred e p :: es) (tStar K te t) := h ▸ pa_star he hr hs
theorem pe_fldK (he : PE X e te) (hb : attributeBase e f X.env (eval e X.env) = eval e X.env) (h : X.K = K := by rfl) : PE X (.Attribute e f pos) (tFld K te f) := h ▸ pe_fld he hb
theorem pg_tupK {es : List Expr} {k : Nat} {t : TGs} {n : Nat} (hc : X.calm = true) (hg : PGs X es t) (h : X.K = K := by rfl) (hn : (assignEach es X.env).length = n := by rfl) (hst : (assignEach es X.env).findIdx? (·.1) = none := by rfl) : PG X (.Tuple es k pos) (gTup K n t) := h ▸ pg_tup hc hg hn hst
end
theorem atI_at {α : Type} {xs : List α} {j : Nat} {v : α} {i : Int} (e : i = (j : Int)) (h : xs[j]? = some v) : atI xs i = some v := by
  rw [e]
  exact atI_nat h
theorem ixN_at {n j : Nat} {i : Int} (e : i = (j : Int)) (h : j < n) : ixN n i = some j := by
  unfold ixN
  rw [if_pos (by omega), if_pos (by omega)]
  congr 1
  omega

theorem nox_K {CX : CXT} {P : Program} {w : World} {K : PySem.W.Frag} {mg : Str → Option Value} {base : Heap} {N : List Str} {qual : Str} {scope : Scope} {f : Addr} {cd : Value} {A : Around} {outer : List Env} {s : Shared} {H : Hp} {E : XK} : (cxOf CX P w K mg base N qual scope f cd A outer s H E).nox.K = K := rfl
theorem cx_K {CX : CXT} {P : Program} {w : World} {K : PySem.W.Frag} {mg : Str → Option Value} {base : Heap} {N : List Str} {qual : Str} {scope : Scope} {f : Addr} {cd : Value} {A : Around} {outer : List Env} {s : Shared} {H : Hp} {E : XK} : (cxOf CX P w K mg base N qual scope f cd A outer s H E).K = K := rfl
/-! ### fields stored; a new object -/
def xSF (K : PySem.W.Frag) (f : Str) (y : V) (N : Hp → Prop) : VK := fun x H2 => ∃ a C dx fs, x = .ref a ∧ H2 a = some (.ins C dx fs) ∧ Cls K C ∧ NoAttr K C f ∧ fs.length < 1000 ∧ N (upd H2 a (.ins C dx (putF f y fs)))
def xMk (C : Addr) (sp : Sp) (E : XK) (Q : VK) : List V → Hp → Prop := fun vs H1 => ∀ x dx, H1 x = Option.none → H1 dx = Option.none → dx ≠ x → sp (V.ref x :: vs) (upd (upd H1 dx (.own x)) x (.ins C dx [])) (fun v H2 => v = .non ∧ Q (.ref x) H2) E
section
variable {K : PySem.W.Frag} {σ : L2.St} {H : Hp} {D : Ends} {Q : VK} {x y : V} {ta tv : TE} {tl : TA} {f : Str}
theorem g_setF (k : tv σ H fun y H1 => ta σ H1 (xSF K f y (D.nx σ))) : sFld K ta tv f D σ H := k
theorem g_xSF {a C dx : Addr} {fs : List (Str × V)} {N : Hp → Prop} (h : H a = some (.ins C dx fs)) (c : Cls K C) (n : NoAttr K C f) (l : fs.length < 1000) (k : ∀ H3, Kp [a] H H3 → H3 a = some (.ins C dx (putF f y fs)) → N H3) : xSF K f y N (.ref a) H :=
  ⟨a, C, dx, fs, rfl, h, c, n, l, k _ (Kp.writeI h) upd_same⟩
theorem g_make {C : Addr} {sp : Sp} {E : XK} (k : tl σ H (xMk C sp E Q)) : tMake C sp [] E tl σ H Q := by
  have e : (fun (vs : List V) (H1 : Hp) => ∀ x dx, H1 x = Option.none → H1 dx = Option.none → dx ≠ x → sp (V.ref x :: vs ++ []) (upd (upd H1 dx (.own x)) x (.ins C dx [])) (fun v H2 => v = .non ∧ Q (.ref x) H2) E) = xMk C sp E Q := by
    funext vs H1
    have e0 : ∀ x : Addr, V.ref x :: vs ++ [] = V.ref x :: vs := fun x => List.append_nil _
    simp only [e0]
    rfl
  show tl σ H (fun vs H1 => ∀ x dx, H1 x = Option.none → H1 dx = Option.none → dx ≠ x → sp (V.ref x :: vs ++ []) (upd (upd H1 dx (.own x)) x (.ins C dx [])) (fun v H2 => v = .non ∧ Q (.ref x) H2) E)
  rw [e]
  exact k
theorem g_xMk {C : Addr} {sp : Sp} {E : XK} {vs : List V} (k : ∀ x dx H2, H x = Option.none → Kp [] H H2 → H2 x = some (.ins C dx []) → sp (V.ref x :: vs) H2 (fun v H3 => v = .non ∧ Q (.ref x) H3) E) : xMk C sp E Q vs H := fun x dx nx nd ne => by
  refine k x dx _ nx ?_ upd_same
  have a : Kp [] H (upd H dx (.own x)) := Kp.new nd
  exact a.trans (Kp.new (by rw [upd_ne (Ne.symm ne)]; exact nx))
end
/-! ### names of the top -/
structure Nm (mg : Str → Option Value) : Prop where
  len : mg "len" = none
  range : mg "range" = none
  max : mg "max" = none
  min : mg "min" = none
  int : mg "int" = none
  bool : mg "bool" = none
  str : mg "str" = none
  list : mg "list" = none
  tuple : mg "tuple" = none
  dict : mg "dict" = none
  set : mg "set" = none
  abs : mg "abs" = none
  sum : mg "sum" = none
  all : mg "all" = none
  any : mg "any" = none
  isinstance : mg "isinstance" = none
  zip : mg "zip" = none
  enumerate : mg "enumerate" = none
  sorted : mg "sorted" = none
def Gc (mg : Str → Option Value) (x : Str) (v : V) : Prop := ∃ u, mg x = some u ∧ RelV v u

/-! ### a def that may be called by its name; a method; a class -/
structure Cal (CX : CXT) (P : Program) (w : World) (K : PySem.W.Frag) (mg : Str → Option Value) (base : Heap) (k : Nat) (x : Str) (sp : Sp) : Prop where
  ex : ∃ (f : Addr) (fd : FuncData) (ps : List Str), FnOk P w K mg base CX k f fd ps sp ∧ mg x = some (.ref f) ∧ PySem.W.keepIn K (.ref f) = true ∧ Binds K fd ps []
theorem Cal.mono {CX : CXT} {P : Program} {w : World} {K : PySem.W.Frag} {mg : Str → Option Value} {base : Heap} {j k : Nat} {x : Str} {sp : Sp} (c : Cal CX P w K mg base j x sp) (h : j ≤ k) : Cal CX P w K mg base k x sp := by
  obtain ⟨f, fd, ps, F, r⟩ := c.ex
  exact ⟨f, fd, ps, F.mono h, r⟩
theorem Cal.imp {CX : CXT} {P : Program} {w : World} {K : PySem.W.Frag} {mg : Str → Option Value} {base : Heap} {k : Nat} {x : Str} {sp sp' : Sp} (c : Cal CX P w K mg base k x sp) (h : ∀ vs H Q E, sp' vs H Q E → sp vs H Q E) : Cal CX P w K mg base k x sp' := by
  obtain ⟨f, fd, ps, F, r⟩ := c.ex
  exact ⟨f, fd, ps, F.imp h, r⟩
structure Mak (CX : CXT) (P : Program) (w : World) (K : PySem.W.Frag) (mg : Str → Option Value) (base : Heap) (k : Nat) (x : Str) (C : Addr) (sp : Sp) : Prop where
  ex : ∃ (f : Addr) (fd : FuncData) (ps : List Str), Mk K C f ∧ FnOk P w K mg base CX k f fd ps sp ∧ mg x = some (.ref C) ∧ Binds K fd ps []
section
variable {X : Cx} {CX : CXT} {k j : Nat} {x : Str} {sp : Sp} {E : XK} {p pos apos : Pos} {e o : Expr} {es : List Expr} {ta : TE} {t : TA}
theorem pe_c (c : Cal CX0 X.prog X.w X.K X.mg X.base k x sp) (hr : Room j X.A) (hk : k ≤ j) (hg : Gl X x) (ha : PA X (e :: es) t)
    (hdb : (x == ("__debug__" : Str)) = false := by decide) (he : starEach (e :: es) X.env = (false, eval e X.env) :: starEach es X.env := by rfl) (hpl : (backTo pos (starEach es X.env)).any (·.1) = false := by rfl) :
    PE X (.Call (.Name x p) (e :: es) [] pos) (tCall sp [] E0 t) := by
  obtain ⟨f, fd, ps, F, hm, kp, b⟩ := c.ex
  exact pe_call F (hr.mono hk) hg hm kp b .nil pass0 ha hdb he hpl
theorem pe_mk {C : Addr} (c : Mak CX0 X.prog X.w X.K X.mg X.base k x C sp) (hr : Room j X.A) (hk : k + 1 ≤ j) (hg : Gl X x) (ha : PA X (e :: es) t)
    (hdb : (x == ("__debug__" : Str)) = false := by decide) (he : starEach (e :: es) X.env = (false, eval e X.env) :: starEach es X.env := by rfl) (hpl : (backTo pos (starEach es X.env)).any (·.1) = false := by rfl) :
    PE X (.Call (.Name x p) (e :: es) [] pos) (tMake C sp [] E0 t) := by
  obtain ⟨f, fd, ps, M, F, hm, b⟩ := c.ex
  exact pe_make M F (hr.mono hk) hg hm b .nil pass0 ha hdb he hpl
theorem pe_g {v : V} (hg : Gl X x) (h : Gc X.mg x v) (hd : (x == ("__debug__" : Str)) = false := by decide) : PE X (.Name x pos) (tC v) := by
  obtain ⟨u, hm, r⟩ := h
  exact pe_glob hg hm r hd
theorem pe_c0 (c : Cal CX0 X.prog X.w X.K X.mg X.base k x sp) (hr : Room j X.A) (hk : k ≤ j) (hg : Gl X x)
    (hdb : (x == ("__debug__" : Str)) = false := by decide) :
    PE X (.Call (.Name x p) [] [] pos) (tCall sp [] E0 tNil) := by
  obtain ⟨f, fd, ps, F, hm, kp, b⟩ := c.ex
  exact pe_call0 F (hr.mono hk) hg hm kp b .nil pass0 hdb
end
end WZ

/-! for i, x in enumerate(t), t a tuple -/
namespace PySem
open Sem (wp)
open AutoSeq1 (wpAny_loadPart')
theorem meets_enumerate_newT1 {v : Value} {o : Obj} {H : Heap → Prop} (B : Begins v o H) :
    Meets (Builtin.«enumerate.__new__» ⟨[.type "enumerate", v], []⟩) (fun _ R s => H s.heap ∧
      R (.ok (.ret (.ref (s.heap.push o).objs.size))) { s with heap := (s.heap.push o).push { cls := .type "enumerate", data := .fields #[.none, .bool false, .ref s.heap.objs.size, rawInt 0, .none, .none] } }) :=
  .of_wp fun prog w A R s h => by
    obtain ⟨hp, g, d, tk, os⟩ := s; obtain ⟨h1, h⟩ := h
    have hsub := sub_enumerate
    have q1 : ∀ {A' : Around} {E : Value → Shared → Prop} {Q : Value → Shared → Prop}, Q (.ref hp.objs.size) ⟨hp.push o, g, d, tk, os⟩ → wpAny (model prog w) A' (pyIter v) Q E ⟨hp, g, d, tk, os⟩ :=
      fun q => B.iter prog w _ _ ⟨hp, g, d, tk, os⟩ _ h1 q
    wp_walk using q1
    refine wpAny_stack_any fun st => wpAny_pure ?_
    split
    · rename_i c _ _ _ _ _
      cases (c == Value.type "enumerate")
      · wp_walk using q1
        exact ⟨_, rfl, h⟩
      · wp_walk using q1
        exact ⟨_, rfl, h⟩
    · wp_walk using q1
      exact ⟨_, rfl, h⟩

theorem call_enumerate_B {prog : Program} {w : World} {A : Around} {E : Value → Shared → Prop} {s : Shared} {v : Value} {o : Obj} {H : Heap → Prop} {Q : Value → Shared → Prop} (B : Begins v o H) (h1 : H s.heap)
    (h : ∀ h', IsEnum h' (s.heap.objs.size + 1) s.heap.objs.size 0 .none → h'.get? s.heap.objs.size = some o → h'.objs.size = s.heap.objs.size + 2 →
      (∀ b o, s.heap.get? b = some o → h'.get? b = some o) → Q (.ref (s.heap.objs.size + 1)) { s with heap := h' }) :
    wpAny (model prog w) A (call (.type "enumerate") [v]) Q E s := by
  refine callType_new F.called_enumerate (by decide) (F.typeCall_enumerate_1 _) (F.newCall_enumerate_1 _) (fun obj => F.args_object_init_2 obj _) F.entry_enumerate_new (meets_enumerate_newT1 B) ⟨h1, ?_⟩
  have hz : (s.heap.push o).objs.size = s.heap.objs.size + 1 := Heap.size_push ..
  show _ ∧ _
  rw [hz]
  have he : IsEnum ((s.heap.push o).push { cls := .type "enumerate", data := .fields #[.none, .bool false, .ref s.heap.objs.size, rawInt 0, .none, .none] }) (s.heap.objs.size + 1) s.heap.objs.size 0 .none := by
    have := Heap.get?_push_size (s.heap.push o) (o := { cls := .type "enumerate", data := .fields #[.none, .bool false, .ref s.heap.objs.size, rawInt 0, .none, .none] }) rfl
    rw [hz] at this; exact this
  refine ⟨⟨_, he, rfl⟩, h _ he (Heap.get?_push_of_some _ (Heap.get?_push_size _ B.free)) (by rw [Heap.size_push, hz]) fun b o x => Heap.get?_push_of_some _ (Heap.get?_push_of_some _ x)⟩
end PySem
namespace WZ
open PySem PySem.Spec PyProof.Rows L2
/-- the tuple at a as it stands at each turn, each item in a new pair -/
def Iet (K : PySem.W.Frag) (a : Addr) : It :=
  ⟨fun i H => ∃ (xs : List V) (x : V), SqT K H a xs ∧ xs[i]? = some x, fun i H v H' => ∃ T x, v = .ref T ∧ H T = none ∧ H' = upd H T (.tup [.int (i : Nat), x]) ∧ ∀ xs, SqT K H a xs → xs[i]? = some x, fun i H => ∃ xs : List V, SqT K H a xs ∧ xs.length = i⟩
theorem turn_enumT {P : Program} {w : World} {K : PySem.W.Frag} {elts : List Expr} {kk : Nat} {tpos : Pos} (a e it : Addr) :
    Turn P w K (.Tuple elts kk tpos) (Iet K a) [e, it] e (fun i h => (∃ old, IsEnum h e it ((i : Nat) : Int) old) ∧ h.IsTupleIter it a i ∧ e ≠ it) where
  mem := by simp
  obj := fun i h st b hb => by
    obtain ⟨⟨old, he⟩, ⟨o, ho, hc, hd⟩, _⟩ := st
    have e' : b = e ∨ b = it := by simpa using hb
    rcases e' with z | z
    · rw [z]; exact ⟨_, he, fun v q => nomatch q⟩
    · rw [z]; exact ⟨o, ho, fun v q => by rw [hd] at q; cases q⟩
  keep := fun i h h' st k => let ⟨⟨old, he⟩, hi, hne⟩ := st; ⟨⟨old, k e (by simp) _ he⟩, hi.at fun o q => k it (by simp) o q, hne⟩
  item := by
    intro X hP hw hK hc i pins s σ H E I hf st hg
    subst hP hw hK
    obtain ⟨⟨old, he⟩, hit, hne⟩ := st
    obtain ⟨xs, x, hq, hx⟩ := hg
    obtain ⟨its, rv, p, hz⟩ := I.tuple hq
    obtain ⟨u, hu, ru⟩ := rv.get hx
    have hel : e < s.heap.objs.size := Heap.lt_size he
    have hil : it < s.heap.objs.size := by obtain ⟨_, q, _⟩ := hit; exact Heap.lt_size q
    have pT : s.heap.IsTuple a its.toArray := p
    have hai : a ≠ it := fun z => by
      subst z
      obtain ⟨o, ho, hc', _⟩ := hit
      obtain ⟨o2, ho2, hc2, _⟩ := pT
      rw [ho] at ho2
      cases ho2
      rw [hc'] at hc2
      exact absurd hc2 (by decide)
    have hae : e ≠ a := fun z => by
      subst z
      obtain ⟨o2, ho2, hc2, _⟩ := pT
      rw [he] at ho2
      cases ho2
      exact absurd (show Value.type "enumerate" = Value.type "tuple" from hc2) (by decide)
    have D := Draws.tuple (prog := X.prog) (w := X.w) (A := X.A.in1) (I.ok.hd hc) it a hai its.toArray
    have hli : i < its.toArray.size := by
      have := (List.getElem?_eq_some_iff.mp hu).1
      simpa using this
    refine wpAny_pyNext_enum_itemC D he ⟨hit, pT⟩ hli hne (by simp [hne, hae]) fun y h' tk hy ho hst' hT hsz hk => ?_
    have eu : y = u := by
      have : its.toArray[i]? = some u := by simpa using hu
      rw [this] at hy
      exact (Option.some.inj hy).symm
    subst eu
    refine ⟨_, rfl, wpAny_letOwnedTupleGo_enum (s := { s with heap := h', toks := tk + 1 }) ho fun h'' he' sb => ?_⟩
    have hT2 : h''.get? s.heap.objs.size = some { cls := .type "tuple", data := .seq #[.int i tk, y] } := (sb.2 _ (Nat.ne_of_gt hel)).trans hT
    have new : ObjOk X.prog X.w (upd H s.heap.objs.size (.tup [.int (i : Nat), x])) h'' s.heap.objs.size (.tup [.int (i : Nat), x]) :=
      ⟨by show 2 ≤ sizeLine; decide, [.int i tk, y], .cons ⟨_, rfl⟩ (.cons ru .nil), ⟨_, hT2, rfl, _, rfl⟩⟩
    have I1 : Inv X pins σ (upd H s.heap.objs.size (.tup [.int (i : Nat), x])) { s with heap := h'', toks := tk + 1 } :=
      I.turnedNew (ch := [e, it]) (fun b ob hb q => (sb.2 b (fun z => hb (by simp [z]))).trans (hk b ob (fun z => hb (by simp [z])) (fun z => hb (by simp [z])) q)) hf (Nat.le_refl _) new
    refine ⟨.ref s.heap.objs.size, _, I1, rfl, ⟨_, x, rfl, I.hok.fresh (Nat.le_refl _), rfl, fun ys hy => by rw [I.tuple_inj hy hq]; exact hx⟩, ⟨⟨y, ?_⟩, hst'.1.at fun o q => (sb.2 it (Ne.symm hne)).trans q, hne⟩, fun b hb => ?_⟩
    · have e1 : ((i + 1 : Nat) : Int) = (i : Int) + 1 := by omega
      rw [e1]; exact he'
    · have hb' : b < s.heap.objs.size := by
        have e' : b = e ∨ b = it := by simpa using hb
        rcases e' with z | z
        · rw [z]; exact hel
        · rw [z]; exact hil
      rw [upd_ne (Nat.ne_of_lt hb')]
      exact (hf b hb).1
  done := by
    intro X hP hw hK hc i pins s σ H E I hf st hg
    subst hP hw hK
    obtain ⟨⟨old, he⟩, hit, hne⟩ := st
    obtain ⟨xs, hq, hx⟩ := hg
    obtain ⟨its, rv, p, hz⟩ := I.tuple hq
    obtain ⟨f0, f1, f2, f3, f4, f5⟩ := hf it (by simp)
    have hl := rv.length
    have pT : s.heap.IsTuple a its.toArray := p
    have hai : a ≠ it := fun z => by
      subst z
      obtain ⟨o, ho, hc', _⟩ := hit
      obtain ⟨o2, ho2, hc2, _⟩ := pT
      rw [ho] at ho2
      cases ho2
      rw [hc'] at hc2
      exact absurd hc2 (by decide)
    subst hx
    have D := Draws.tuple (prog := X.prog) (w := X.w) (A := X.A.in1) (I.ok.hd hc) it a hai its.toArray
    have hsz : its.toArray.size = xs.length := by simp [hl]
    exact wpAny_pyNext_enum_endD D he ⟨by rw [hsz]; exact hit, pT⟩ fun h' eb => ⟨rfl, I.turned (t' := s.toks) (fun b o hb q => eb b o hb q) f0 f1 f3 f4 f5⟩
  self := fun A i s Q E st h => let ⟨⟨_, he⟩, _⟩ := st; wpAny_pyIter_enum he h
def iEnumT (K : PySem.W.Frag) (ta : TA) : TI := fun σ H R => ta σ H fun vs H1 => ∃ a xs, vs = [.ref a] ∧ SqT K H1 a xs ∧ R (Iet K a) H1
theorem pi_enumT {X : Cx} {e : Expr} {ta : TA} {p pos tpos : Pos} {elts : List Expr} {kk : Nat} (hg : Gl X "enumerate") (hm : X.mg "enumerate" = none) (ha : PA X [e] ta) (hs : starEach [e] X.env = [(false, eval e X.env)] := by rfl) :
    PI X (.Tuple elts kk tpos) (.Call (.Name "enumerate" p) [e] [] pos) (iEnumT X.K ta) := by
  refine ⟨fun pins s σ H R I h => ?_⟩
  refine Call_ (ld_blt I hg hm boot_enumerate (PyProof.Rows.callWith_type1 (thn (ha.run pos pins s σ H _ I h) fun us s1 ⟨vs, H1, I1, r1, q1⟩ => ?_) hs rfl))
  obtain ⟨a, xs, ex, hq, q⟩ := q1
  subst ex
  cases r1 with
  | cons r rr =>
    cases rr
    cases r
    obtain ⟨its, rv, p', hz⟩ := I1.tuple hq
    refine call_enumerate_B (begins_tuple a its.toArray) p' fun h' he hit hsz hk => wpAny_pyIter_enum he ?_
    have I2 : Inv X pins σ H1 { s1 with heap := h' } := I1.kept (t' := s1.toks) hk
    refine ⟨s1.heap.objs.size + 1, [s1.heap.objs.size + 1, s1.heap.objs.size], _, _, H1, rfl, I2, turn_enumT a (s1.heap.objs.size + 1) s1.heap.objs.size, ⟨⟨.none, he⟩, ⟨_, hit, rfl, rfl⟩, Nat.succ_ne_self _⟩, fun b hb => ?_, q⟩
    have e' : b = s1.heap.objs.size + 1 ∨ b = s1.heap.objs.size := by simpa using hb
    have hle : s1.heap.objs.size ≤ b := by
      rcases e' with z | z
      · rw [z]; exact Nat.le_add_right _ _
      · rw [z]; exact Nat.le_refl _
    exact I1.fpOk hle (I1.hok.fresh hle)
def xEnumT (K : PySem.W.Frag) (R : It → Hp → Prop) : List V → Hp → Prop := fun vs H1 => ∃ a xs, vs = [.ref a] ∧ SqT K H1 a xs ∧ R (Iet K a) H1
section
variable {K : PySem.W.Frag} {σ : L2.St} {H : Hp} {D : Ends} {ti : TA} {tw : TS} {g : TG} {R : It → Hp → Prop}
theorem g_iEnumT (k : ti σ H (xEnumT K R)) : iEnumT K ti σ H R := k
theorem g_xEnumT {a : Addr} {xs : List V} (h : SqT K H a xs) (k : R (Iet K a) H) : xEnumT K R [.ref a] H := ⟨a, xs, rfl, h, k⟩
theorem g_loopE {a : Addr} {xs : List V} (I : Nat → L2.St → Hp → Prop) (h0 : I 0 σ H) (hl : ∀ i σ' H', i ≤ xs.length → I i σ' H' → SqT K H' a xs)
    (hs : ∀ i x σ' H' T H'', xs[i]? = some x → I i σ' H' → H' T = none → Kp [] H' H'' → H'' T = some (.tup [.int (i : Nat), x]) → g (.ref T) σ' H'' fun σ2 H2 => tw { D with nx := I (i + 1), ct := I (i + 1), bk := D.nx } σ2 H2) (hd : ∀ σ' H', I xs.length σ' H' → D.nx σ' H') : xFor g tw D σ (Iet K a) H := by
  refine ⟨fun i m σ H => m = xs.length - i ∧ i ≤ xs.length ∧ I i σ H, ⟨xs.length, by simp, Nat.zero_le _, h0⟩, ?_⟩
  rintro i m σ H ⟨rfl, hi, p⟩
  have q := hl i σ H hi p
  by_cases hlt : i < xs.length
  · refine .inr ⟨⟨xs, xs[i], q, by simp [hlt]⟩, I (i + 1), fun σ' H' p' => ⟨xs.length - (i + 1), by omega, rfl, hlt, p'⟩, fun x H' y => ?_⟩
    obtain ⟨T, z, rfl, nT, rfl, y⟩ := y
    have e1 := y xs q
    exact hs i z σ H T _ e1 p nT (Kp.new nT) upd_same
  · have e : i = xs.length := by omega
    subst e
    exact .inl ⟨⟨xs, q, rfl⟩, hd σ H p⟩
end
end WZ

/-! the data of a counter, and what the helpers promise -/
namespace WZ
open PySem PySem.Spec PyProof.Rows L2 StX
/-! ### steps -/
inductive Wd where
  | on | back | no
  deriving DecidableEq
def Wd.s : Wd → Str
  | .on => "on"
  | .back => "back"
  | .no => "none"
def Wd.c : Wd → Int
  | .on => 1
  | .back => -1
  | .no => 0
inductive Pl where
  | turn (w : Nat) (b : Int) (k : Wd)
  | set (w : Nat) (p : Int)
  deriving DecidableEq
inductive Stp where
  | pl (p : Pl)
  | alike (a b : Nat) (f g : List Pl)
  deriving DecidableEq
def Pl.dat : Pl → PyData
  | .turn w b k => .tuple [.str "turn", .int w, .int b, .str k.s]
  | .set w p => .tuple [.str "set", .int w, .int p]
def Stp.dat : Stp → PyData
  | .pl p => p.dat
  | .alike a b f g => .tuple [.str "alike", .int a, .int b, .tuple (f.map Pl.dat), .tuple (g.map Pl.dat)]
def dSteps (l : List Stp) : PyData := .tuple (l.map Stp.dat)
def dPls (l : List Pl) : PyData := .tuple (l.map Pl.dat)
def Pl.ok (n : Nat) : Pl → Prop
  | .turn w b _ => w < n ∧ (b = -2 ∨ b = -1 ∨ b = 1 ∨ b = 2)
  | .set w p => w < n ∧ -2 ≤ p ∧ p ≤ 1
def Stp.ok (n : Nat) : Stp → Prop
  | .pl p => p.ok n
  | .alike a b f g => a < b ∧ b < n ∧ (∀ p ∈ f, p.ok n) ∧ ∀ p ∈ g, p.ok n
def Stp.cnt : Stp → Nat
  | .pl _ => 1
  | .alike _ _ f g => 1 + f.length + g.length
def cnts (l : List Stp) : Nat := (l.map Stp.cnt).sum
def StepsOk (n : Nat) (l : List Stp) : Prop := ∀ s ∈ l, s.ok n
theorem cnt_pos (s : Stp) : 1 ≤ s.cnt := by cases s <;> simp [Stp.cnt] <;> omega
theorem cnts_app (a b : List Stp) : cnts (a ++ b) = cnts a + cnts b := by simp [cnts]
theorem cnts_len : ∀ l : List Stp, l.length ≤ cnts l
  | [] => Nat.le_refl _
  | s :: r => by
    have h1 := cnts_len r
    have h2 := cnt_pos s
    show r.length + 1 ≤ s.cnt + cnts r
    omega
section
variable {K : PySem.W.Frag} {H : Hp} {v : V}
theorem td_turn {w : Nat} {b : Int} {k : Wd} (h : Td K H v (Pl.dat (.turn w b k))) : ∃ a, v = .ref a ∧ SqT K H a [.str "turn", .int w, .int b, .str k.s] := by
  obtain ⟨a, xs, rfl, q, t⟩ := h.inv
  cases t with
  | cons h1 t => cases t with
    | cons h2 t => cases t with
      | cons h3 t => cases t with
        | cons h4 t =>
          cases t
          rw [h1.strInv, h2.intInv, h3.intInv, h4.strInv] at q
          exact ⟨a, rfl, q⟩
theorem td_set {w : Nat} {p : Int} (h : Td K H v (Pl.dat (.set w p))) : ∃ a, v = .ref a ∧ SqT K H a [.str "set", .int w, .int p] := by
  obtain ⟨a, xs, rfl, q, t⟩ := h.inv
  cases t with
  | cons h1 t => cases t with
    | cons h2 t => cases t with
      | cons h3 t =>
        cases t
        rw [h1.strInv, h2.intInv, h3.intInv] at q
        exact ⟨a, rfl, q⟩
theorem td_alike {a b : Nat} {f g : List Pl} (h : Td K H v (Stp.dat (.alike a b f g))) : ∃ p pf pg xs ys, v = .ref p ∧ SqT K H p [.str "alike", .int a, .int b, .ref pf, .ref pg] ∧
    SqT K H pf xs ∧ TdA K H xs (f.map Pl.dat) ∧ SqT K H pg ys ∧ TdA K H ys (g.map Pl.dat) := by
  obtain ⟨p, xs, rfl, q, t⟩ := h.inv
  cases t with
  | cons h1 t => cases t with
    | cons h2 t => cases t with
      | cons h3 t => cases t with
        | cons h4 t => cases t with
          | cons h5 t =>
            cases t
            obtain ⟨pf, us, rfl, q4, t4⟩ := h4.inv
            obtain ⟨pg, ws, rfl, q5, t5⟩ := h5.inv
            rw [h1.strInv, h2.intInv, h3.intInv] at q
            exact ⟨p, pf, pg, us, ws, rfl, q, q4, t4, q5, t5⟩
theorem td_mk_turn {a : Addr} {w : Nat} {b : Int} {k : Wd} (h : SqT K H a [.str "turn", .int w, .int b, .str k.s]) : Td K H (.ref a) (Pl.dat (.turn w b k)) := .tup h (.cons (.str _) (.cons (.int _) (.cons (.int _) (.cons (.str _) .nil))))
theorem td_mk_set {a : Addr} {w : Nat} {p : Int} (h : SqT K H a [.str "set", .int w, .int p]) : Td K H (.ref a) (Pl.dat (.set w p)) := .tup h (.cons (.str _) (.cons (.int _) (.cons (.int _) .nil)))
theorem td_mk_alike {p pf pg : Addr} {a b : Nat} {f g : List Pl} {xs ys : List V} (h : SqT K H p [.str "alike", .int a, .int b, .ref pf, .ref pg]) (hf : SqT K H pf xs) (tf : TdA K H xs (f.map Pl.dat)) (hg : SqT K H pg ys) (tg : TdA K H ys (g.map Pl.dat)) :
    Td K H (.ref p) (Stp.dat (.alike a b f g)) := .tup h (.cons (.str _) (.cons (.int _) (.cons (.int _) (.cons (.tup hf tf) (.cons (.tup hg tg) .nil)))))
theorem td_int {h : Int} : Td K H (.int h) (.int h) := .int h
end

/-! ### the source of draws -/
def Src (H : Hp) (h q : Addr) : Prop := ∃ (st : Int) (ns : List Int) (ix : Int), H h = some (.lst [.int st, .ref q, .int ix]) ∧ H q = some (.lst (vI ns)) ∧ ns.length ≤ 63 ∧ 0 ≤ ix
theorem Kp.src {M : List Addr} {H H' : Hp} {h q : Addr} (k : Kp M H H') (s : Src H h q) (n1 : h ∉ M) (n2 : q ∉ M) : Src H' h q := by
  obtain ⟨st, ns, ix, e1, e2, r⟩ := s
  exact ⟨st, ns, ix, k.at_ e1 n1, k.at_ e2 n2, r⟩
theorem Src.ne {H : Hp} {h q l : Addr} (s : Src H h q) (n : H l = none) : l ≠ h := by
  obtain ⟨st, ns, ix, e1, e2, r⟩ := s
  exact (ne_of_none e1 n).symm
theorem Src.ne2 {H : Hp} {h q l : Addr} (s : Src H h q) (n : H l = none) : l ≠ q := by
  obtain ⟨st, ns, ix, e1, e2, r⟩ := s
  exact (ne_of_none e2 n).symm
/-- a result of a draw: all but the source stands -/
def spMix (K : PySem.W.Frag) : Sp := fun vs H Q _ => ∃ (a : Addr) (ns : List Int) (sd : Int), vs = [.ref a, .int sd] ∧ SqL K H a (vI ns) ∧ ns.length ≤ 63 ∧ ∀ (h q : Addr) (H' : Hp), H h = none → H q = none → Kp [] H H' → Src H' h q → Q (.ref h) H'
def spNext : Sp := fun vs H Q _ => ∃ (h q : Addr) (cap : Int), vs = [.ref h, .int cap] ∧ Src H h q ∧ 0 < cap ∧ cap ≤ 10 ^ 18 ∧ ∀ (r : Int) (H' : Hp), 0 ≤ r → r < cap → Kp [h, q] H H' → Src H' h q → Q (.int r) H'
def spPick : Sp := fun vs H Q _ => ∃ (h q l : Addr) (xs : List V), vs = [.ref h, .ref l] ∧ Src H h q ∧ H l = some (.lst xs) ∧ l ≠ h ∧ l ≠ q ∧ 0 < xs.length ∧ xs.length ≤ 1000 ∧ ∀ (v : V) (H' : Hp), v ∈ xs → Kp [h, q] H H' → Src H' h q → Q v H'
def spPlain (K : PySem.W.Frag) : Sp := fun vs H Q _ => ∃ (h q : Addr) (n : Nat), vs = [.ref h, .int n] ∧ Src H h q ∧ 1 ≤ n ∧ n ≤ 3 ∧ ∀ (p : Pl) (v : V) (H' : Hp), p.ok n → Td K H' v p.dat → Kp [h, q] H H' → Src H' h q → Q v H'
def spStep (K : PySem.W.Frag) : Sp := fun vs H Q _ => ∃ (h q : Addr) (n : Nat), vs = [.ref h, .int n] ∧ Src H h q ∧ 1 ≤ n ∧ n ≤ 3 ∧ ∀ (p : Stp) (v : V) (H' : Hp), p.ok n → p.cnt ≤ 3 → Td K H' v p.dat → Kp [h, q] H H' → Src H' h q → Q v H'
def spMany (K : PySem.W.Frag) : Sp := fun vs H Q _ => ∃ (a : Addr) (xs : List V) (l : List Stp), vs = [.ref a] ∧ SqT K H a xs ∧ TdA K H xs (l.map Stp.dat) ∧ l.length ≤ 1000 ∧ ∀ (H' : Hp), Kp [] H H' → Q (.int (cnts l)) H'
def spSteps (K : PySem.W.Frag) : Sp := fun vs H Q _ => ∃ (h q : Addr) (n m : Nat), vs = [.ref h, .int n, .int m] ∧ Src H h q ∧ 1 ≤ n ∧ n ≤ 3 ∧ m ≤ 5 ∧ ∀ (l : List Stp) (v : V) (H' : Hp), StepsOk n l → cnts l ≤ m → Td K H' v (dSteps l) → Kp [h, q] H H' → Src H' h q → Q v H'
def spWheels (K : PySem.W.Frag) : Sp := fun vs H Q _ => ∃ (h q : Addr), vs = [.ref h] ∧ Src H h q ∧ ∀ (n m : Nat) (a : Addr) (H' : Hp), (n, m) ∈ [(1, 5), (2, 5), (2, 4), (3, 3)] → SqT K H' a [.int n, .int m] → Kp [h, q] H H' → Src H' h q → Q (.ref a) H'
section
variable {K : PySem.W.Frag} {H : Hp} {Q : VK} {E : XK} {h q l a : Addr} {n m : Nat} {xs : List V}
theorem ap_mix {ns : List Int} {sd : Int} (s : SqL K H a (vI ns)) (hl : ns.length ≤ 63) (k : ∀ (h q : Addr) (H' : Hp), H h = none → H q = none → Kp [] H H' → Src H' h q → Q (.ref h) H') : spMix K [.ref a, .int sd] H Q E := ⟨a, ns, sd, rfl, s, hl, k⟩
theorem ap_next {cap : Int} (s : Src H h q) (c0 : 0 < cap) (c1 : cap ≤ 10 ^ 18) (k : ∀ (r : Int) (H' : Hp), 0 ≤ r → r < cap → Kp [h, q] H H' → Src H' h q → Q (.int r) H') : spNext [.ref h, .int cap] H Q E := ⟨h, q, cap, rfl, s, c0, c1, k⟩
theorem ap_pick (s : Src H h q) (e : H l = some (.lst xs)) (n1 : l ≠ h) (n2 : l ≠ q) (c0 : 0 < xs.length) (c1 : xs.length ≤ 1000) (k : ∀ (v : V) (H' : Hp), v ∈ xs → Kp [h, q] H H' → Src H' h q → Q v H') : spPick [.ref h, .ref l] H Q E := ⟨h, q, l, xs, rfl, s, e, n1, n2, c0, c1, k⟩
theorem ap_plain (s : Src H h q) (h1 : 1 ≤ n) (h3 : n ≤ 3) (k : ∀ (p : Pl) (v : V) (H' : Hp), p.ok n → Td K H' v p.dat → Kp [h, q] H H' → Src H' h q → Q v H') : spPlain K [.ref h, .int n] H Q E := ⟨h, q, n, rfl, s, h1, h3, k⟩
theorem ap_step (s : Src H h q) (h1 : 1 ≤ n) (h3 : n ≤ 3) (k : ∀ (p : Stp) (v : V) (H' : Hp), p.ok n → p.cnt ≤ 3 → Td K H' v p.dat → Kp [h, q] H H' → Src H' h q → Q v H') : spStep K [.ref h, .int n] H Q E := ⟨h, q, n, rfl, s, h1, h3, k⟩
theorem ap_manyT {l : List Stp} (s : SqT K H a xs) (t : TdA K H xs (l.map Stp.dat)) (hl : l.length ≤ 1000) (k : ∀ (H' : Hp), Kp [] H H' → Q (.int (cnts l)) H') : spMany K [.ref a] H Q E := ⟨a, xs, l, rfl, s, t, hl, k⟩
theorem ap_steps (s : Src H h q) (h1 : 1 ≤ n) (h3 : n ≤ 3) (h5 : m ≤ 5) (k : ∀ (l : List Stp) (v : V) (H' : Hp), StepsOk n l → cnts l ≤ m → Td K H' v (dSteps l) → Kp [h, q] H H' → Src H' h q → Q v H') : spSteps K [.ref h, .int n, .int m] H Q E := ⟨h, q, n, m, rfl, s, h1, h3, h5, k⟩
theorem ap_wheels (s : Src H h q) (k : ∀ (n m : Nat) (a : Addr) (H' : Hp), (n, m) ∈ [(1, 5), (2, 5), (2, 4), (3, 3)] → SqT K H' a [.int n, .int m] → Kp [h, q] H H' → Src H' h q → Q (.ref a) H') : spWheels K [.ref h] H Q E := ⟨h, q, rfl, s, k⟩
end
end WZ

/-! what the looks at steps promise -/
namespace WZ
open PySem PySem.Spec PyProof.Rows L2 StX
/-! ### types -/
section
variable {K : PySem.W.Frag} {H : Hp} {v : V} {d : PyData} {Q : VK}
def tyD : PyData → String
  | .none => "NoneType"
  | .bool _ => "bool"
  | .int _ => "int"
  | .str _ => "str"
  | .list _ => "list"
  | .tuple _ => "tuple"
  | .dict _ => "dict"
theorem dp_ty (h : Dp K H v d) : TyX K H v (.type (tyD d)) := by
  cases h with
  | non => exact .base .non
  | bl b => exact .base (.bl b)
  | int i => exact .base (.int i)
  | str x => exact .base (.str x)
  | lst h _ =>
    rcases h with (h | ⟨o, h⟩) | ⟨o, its, n, h1, h2, _⟩
    · exact .base (.lst h)
    · exact .base (.frz h)
    · exact .kList h1 h2
  | tup h _ =>
    rcases h with (h | ⟨o, h⟩) | ⟨o, its, n, h1, h2, _⟩
    · exact .base (.tup h)
    · exact .fTuple h
    · exact .kTuple h1 h2
theorem g_isi {t n : String} {b : Bool} (ty : TyX K H v (.type t)) (e : kitB t n = some b) (k : Q (.bl b) H) : rIsi K [v, .ty n] H Q := ⟨v, .ty n, .type t, .type n, b, rfl, .ty n, ty, kit_ty e, k⟩
theorem g_isiD {n : String} (b : Bool) (h : Dp K H v d) (e : kitB (tyD d) n = some b) (k : Q (.bl b) H) : rIsi K [v, .ty n] H Q := g_isi (dp_ty h) e k
end
mutual
theorem Dp.mono {K : PySem.W.Frag} {H H' : Hp} (k : Kp [] H H') : ∀ {d : PyData} {v : V}, Dp K H v d → Dp K H' v d
  | _, _, .non => .non
  | _, _, .bl b => .bl b
  | _, _, .int i => .int i
  | _, _, .str x => .str x
  | _, _, .lst h t => .lst (k.sqL h List.not_mem_nil) (DpAll.mono k t)
  | _, _, .tup h t => .tup (k.sqT h) (DpAll.mono k t)
theorem DpAll.mono {K : PySem.W.Frag} {H H' : Hp} (k : Kp [] H H') : ∀ {ds : List PyData} {vs : List V}, DpAll K H vs ds → DpAll K H' vs ds
  | _, _, .nil => .nil
  | _, _, .cons h t => .cons (Dp.mono k h) (DpAll.mono k t)
end
theorem Kp.dp {K : PySem.W.Frag} {H H' : Hp} {v : V} {d : PyData} (k : Kp [] H H') (h : Dp K H v d) : Dp K H' v d := Dp.mono k h
theorem Kp.dpA {K : PySem.W.Frag} {H H' : Hp} {v : List V} {d : List PyData} (k : Kp [] H H') (h : DpAll K H v d) : DpAll K H' v d := DpAll.mono k h
section
variable {K : PySem.W.Frag} {H : Hp}
theorem dpA_len : ∀ {vs : List V} {ds : List PyData}, DpAll K H vs ds → vs.length = ds.length
  | _, _, .nil => rfl
  | _, _, .cons _ t => by simp [dpA_len t]
theorem dpA_get : ∀ {vs : List V} {ds : List PyData} {i : Nat} {d : PyData}, DpAll K H vs ds → ds[i]? = some d → ∃ v, vs[i]? = some v ∧ Dp K H v d
  | _, _, _, _, .nil, e => by simp at e
  | _, _, 0, _, .cons r _, e => by simp at e; subst e; exact ⟨_, rfl, r⟩
  | _, _, i + 1, d, .cons _ t, e => by
    obtain ⟨v, h1, h2⟩ := dpA_get (i := i) (d := d) t (by simpa using e)
    exact ⟨v, by simpa using h1, h2⟩
end

/-! ### the looks -/
def intIn (lo hi : Int) : PyData → Bool
  | .int i => decide (lo ≤ i) && decide (i ≤ hi)
  | _ => false
def wordIn : PyData → Bool
  | .str s => decide (s = "on") || decide (s = "back") || decide (s = "none")
  | _ => false
def turnIn : PyData → Bool
  | .int i => decide (i = -2) || decide (i = -1) || decide (i = 1) || decide (i = 2)
  | _ => false
def plainD (n : Nat) : List PyData → Bool
  | .str s :: a :: b :: r => intIn 0 ((n : Int) - 1) a && (if s = "set" then r.isEmpty && intIn (-2) 1 b else if s = "turn" then (match r with | [c] => turnIn b && wordIn c | _ => false) else false)
  | _ => false
def isPlD (n : Nat) : PyData → Bool
  | .tuple (.str s :: r) => plainD n (.str s :: r)
  | _ => false
def plainsD (n : Nat) : PyData → Bool
  | .tuple ds => ds.all (isPlD n)
  | _ => false
def lessD : PyData → PyData → Bool
  | .int i, .int j => decide (i < j)
  | _, _ => false
def stepD (n : Nat) : PyData → Bool
  | .tuple (.str s :: r) => if s = "alike" then (match r with | [a, b, f, g] => intIn 0 ((n : Int) - 1) a && intIn 0 ((n : Int) - 1) b && lessD a b && plainsD n f && plainsD n g | _ => false) else plainD n (.str s :: r)
  | _ => false
theorem plainD_ok {n : Nat} {p : Pl} (h : p.ok n) : isPlD n p.dat = true := by
  cases p with
  | turn w b k =>
    obtain ⟨h1, h2⟩ := h
    have e1 : ¬ (("turn" : Str) = "set") := by decide +kernel
    have e2 : intIn 0 ((n : Int) - 1) (.int w) = true := by simp [intIn]; omega
    have e3 : turnIn (.int b) = true := by simp [turnIn]; omega
    have e4 : wordIn (.str k.s) = true := by cases k <;> decide +kernel
    simp [Pl.dat, isPlD, plainD, e1, e2, e3, e4]
  | set w p =>
    obtain ⟨h1, h2, h3⟩ := h
    have e2 : intIn 0 ((n : Int) - 1) (.int w) = true := by simp [intIn]; omega
    have e3 : intIn (-2) 1 (.int p) = true := by simp [intIn]; omega
    simp [Pl.dat, isPlD, plainD, e2, e3]
theorem stepD_ok {n : Nat} {s : Stp} (h : s.ok n) : stepD n s.dat = true := by
  cases s with
  | pl p =>
    have q := plainD_ok (p := p) h
    have e1 : ¬ (("turn" : Str) = "alike") := by decide +kernel
    have e2 : ¬ (("set" : Str) = "alike") := by decide +kernel
    cases p with
    | turn w b k => simpa [Stp.dat, Pl.dat, stepD, e1, isPlD] using q
    | set w p => simpa [Stp.dat, Pl.dat, stepD, e2, isPlD] using q
  | alike a b f g =>
    obtain ⟨h1, h2, h3, h4⟩ := h
    have e2 : intIn 0 ((n : Int) - 1) (.int a) = true := by simp [intIn]; omega
    have e3 : intIn 0 ((n : Int) - 1) (.int b) = true := by simp [intIn]; omega
    have e4 : lessD (.int a) (.int b) = true := by simp [lessD]; omega
    have e5 : plainsD n (.tuple (f.map Pl.dat)) = true := by
      simp only [plainsD, List.all_eq_true, List.mem_map]
      rintro _ ⟨p, hp, rfl⟩
      exact plainD_ok (h3 p hp)
    have e6 : plainsD n (.tuple (g.map Pl.dat)) = true := by
      simp only [plainsD, List.all_eq_true, List.mem_map]
      rintro _ ⟨p, hp, rfl⟩
      exact plainD_ok (h4 p hp)
    simp [Stp.dat, stepD, e2, e3, e4, e5, e6]
def Lay (k : Nat) (d : PyData) : Prop := d.canLay0 = true ∧ d.depth ≤ k
theorem Lay.sh {k : Nat} {d : PyData} (h : Lay k d) (hk : k ≤ 64) : SeqAt.shaped d = true := by
  unfold SeqAt.shaped
  rw [h.1, Bool.true_and]
  exact decide_eq_true (Nat.le_trans h.2 hk)
theorem Lay.all {k : Nat} : ∀ {ds : List PyData}, (∀ d ∈ ds, Lay k d) → PyData.canLayAll0 ds = true ∧ PyData.depthAll ds ≤ k
  | [], _ => ⟨rfl, by simp [PyData.depthAll]⟩
  | d :: r, h => by
    obtain ⟨a1, a2⟩ := h d List.mem_cons_self
    obtain ⟨b1, b2⟩ := Lay.all (ds := r) fun e he => h e (List.mem_cons_of_mem _ he)
    refine ⟨by simp [PyData.canLayAll0, a1, b1], ?_⟩
    simp only [PyData.depthAll]
    omega
theorem Lay.tup {k : Nat} {ds : List PyData} (h : ∀ d ∈ ds, Lay k d) : Lay (k + 1) (.tuple ds) := by
  obtain ⟨a, b⟩ := Lay.all h
  exact ⟨by simp [PyData.canLay0, a], by simp [PyData.depth]; omega⟩
theorem Lay.lst {k : Nat} {ds : List PyData} (h : ∀ d ∈ ds, Lay k d) : Lay (k + 1) (.list ds) := by
  obtain ⟨a, b⟩ := Lay.all h
  exact ⟨by simp [PyData.canLay0, a], by simp [PyData.depth]; omega⟩
theorem Lay.int {k : Nat} (i : Int) : Lay k (.int i) := ⟨rfl, by simp [PyData.depth]⟩
theorem Lay.str {k : Nat} {x : Str} (h : PyData.strOk x = true) : Lay k (.str x) := ⟨by simp [PyData.canLay0, h], by simp [PyData.depth]⟩
theorem Lay.mono {k m : Nat} {d : PyData} (h : Lay k d) (hk : k ≤ m) : Lay m d := ⟨h.1, Nat.le_trans h.2 hk⟩
theorem lay_wd (k : Wd) : PyData.strOk k.s = true := by cases k <;> decide +kernel
theorem lay_pl (p : Pl) : Lay 1 p.dat := by
  cases p with
  | turn w b k =>
    refine Lay.tup (k := 0) fun d hd => ?_
    simp only [List.mem_cons, List.not_mem_nil, or_false] at hd
    rcases hd with rfl | rfl | rfl | rfl
    · exact Lay.str (by decide +kernel)
    · exact Lay.int _
    · exact Lay.int _
    · exact Lay.str (lay_wd k)
  | set w p =>
    refine Lay.tup (k := 0) fun d hd => ?_
    simp only [List.mem_cons, List.not_mem_nil, or_false] at hd
    rcases hd with rfl | rfl | rfl
    · exact Lay.str (by decide +kernel)
    · exact Lay.int _
    · exact Lay.int _
theorem lay_pls (l : List Pl) : Lay 2 (.tuple (l.map Pl.dat)) := Lay.tup fun d hd => by
  obtain ⟨p, _, rfl⟩ := List.mem_map.mp hd
  exact lay_pl p
theorem lay_st (s : Stp) : Lay 3 s.dat := by
  cases s with
  | pl p => exact (lay_pl p).mono (by decide)
  | alike a b f g =>
    refine Lay.tup (k := 2) fun d hd => ?_
    simp only [List.mem_cons, List.not_mem_nil, or_false] at hd
    rcases hd with rfl | rfl | rfl | rfl | rfl
    · exact Lay.str (by decide +kernel)
    · exact Lay.int _
    · exact Lay.int _
    · exact lay_pls f
    · exact lay_pls g
theorem lay_steps (l : List Stp) : Lay 4 (dSteps l) := Lay.tup fun d hd => by
  obtain ⟨p, _, rfl⟩ := List.mem_map.mp hd
  exact lay_st p
theorem lay_ints (l : List Int) : Lay 1 (dInts l) := Lay.tup fun d hd => by
  obtain ⟨p, _, rfl⟩ := List.mem_map.mp hd
  exact Lay.int p
theorem shaped_mem {ds : List PyData} (h : SeqAt.shaped (.tuple ds) = true) : ∀ d ∈ ds, SeqAt.shaped d = true := by
  have h1 := SeqAt.canLay_of_shaped h
  have h2 := SeqAt.depth_of_shaped h
  simp only [PyData.canLay0, PyData.depth] at h1 h2
  have h3 : PyData.depthAll ds ≤ 63 := by omega
  clear h h2
  intro d hd
  induction ds with
  | nil => cases hd
  | cons e r ih =>
    simp only [PyData.canLayAll0, Bool.and_eq_true] at h1
    simp only [PyData.depthAll] at h3
    rcases List.mem_cons.mp hd with z | z
    · subst z
      unfold SeqAt.shaped
      rw [h1.1]
      simp
      omega
    · exact ih h1.2 (by omega) z
def Sz1 (d : PyData) : Prop := ∀ ds, d = .tuple ds → ds.length ≤ 1000
def Sz2 (d : PyData) : Prop := ∀ ds, d = .tuple ds → ds.length ≤ 1000 ∧ ∀ e ∈ ds, Sz1 e
def spIsInt (K : PySem.W.Frag) : Sp := fun vs H Q _ => ∃ (v : V) (d : PyData) (lo hi : Int), vs = [v, .int lo, .int hi] ∧ Dp K H v d ∧ ∀ H', Kp [] H H' → Q (.bl (intIn lo hi d)) H'
def spIsPlain (K : PySem.W.Frag) : Sp := fun vs H Q _ => ∃ (a : Addr) (xs : List V) (s : Str) (ds : List PyData) (n : Nat), vs = [.ref a, .int n] ∧ SqT K H a (.str s :: xs) ∧ DpAll K H xs ds ∧ ∀ H', Kp [] H H' → Q (.bl (plainD n (.str s :: ds))) H'
def spArePlain (K : PySem.W.Frag) : Sp := fun vs H Q _ => ∃ (v : V) (d : PyData) (n : Nat), vs = [v, .int n] ∧ Dp K H v d ∧ SeqAt.shaped d = true ∧ Sz1 d ∧ ∀ H', Kp [] H H' → Q (.bl (plainsD n d)) H'
def spIsStep (K : PySem.W.Frag) : Sp := fun vs H Q _ => ∃ (v : V) (d : PyData) (n : Nat), vs = [v, .int n] ∧ Dp K H v d ∧ SeqAt.shaped d = true ∧ Sz2 d ∧ ∀ H', Kp [] H H' → Q (.bl (stepD n d)) H'
theorem sz_pls {l : List Pl} (h : l.length ≤ 1000) : Sz1 (.tuple (l.map Pl.dat)) := fun ds e => by
  cases e
  rw [List.length_map]
  exact h
theorem sz_pl (p : Pl) : Sz2 p.dat := fun ds e => by
  cases p with
  | turn w b k =>
    cases e
    refine ⟨by show 4 ≤ 1000; decide, fun e he => ?_⟩
    simp only [List.mem_cons, List.not_mem_nil, or_false] at he
    rcases he with rfl | rfl | rfl | rfl <;> exact fun _ z => nomatch z
  | set w p =>
    cases e
    refine ⟨by show 3 ≤ 1000; decide, fun e he => ?_⟩
    simp only [List.mem_cons, List.not_mem_nil, or_false] at he
    rcases he with rfl | rfl | rfl <;> exact fun _ z => nomatch z
theorem sz_st {s : Stp} (h : s.cnt ≤ 1000) : Sz2 s.dat := by
  cases s with
  | pl p => exact sz_pl p
  | alike a b f g =>
    have h' : 1 + f.length + g.length ≤ 1000 := h
    intro ds e
    cases e
    refine ⟨by show 5 ≤ 1000; decide, fun e he => ?_⟩
    simp only [List.mem_cons, List.not_mem_nil, or_false] at he
    rcases he with rfl | rfl | rfl | rfl | rfl
    · exact fun _ z => nomatch z
    · exact fun _ z => nomatch z
    · exact fun _ z => nomatch z
    · exact sz_pls (by omega)
    · exact sz_pls (by omega)
section
variable {K : PySem.W.Frag} {H : Hp} {Q : VK} {E : XK} {v : V} {d : PyData} {n : Nat}
theorem ap_isInt {lo hi : Int} (h : Dp K H v d) (k : ∀ H', Kp [] H H' → Q (.bl (intIn lo hi d)) H') : spIsInt K [v, .int lo, .int hi] H Q E := ⟨v, d, lo, hi, rfl, h, k⟩
theorem ap_isPlain {a : Addr} {xs : List V} {s : Str} {ds : List PyData} (h : SqT K H a (.str s :: xs)) (t : DpAll K H xs ds) (k : ∀ H', Kp [] H H' → Q (.bl (plainD n (.str s :: ds))) H') : spIsPlain K [.ref a, .int n] H Q E := ⟨a, xs, s, ds, n, rfl, h, t, k⟩
theorem ap_arePlain (h : Dp K H v d) (s : SeqAt.shaped d = true) (z : Sz1 d) (k : ∀ H', Kp [] H H' → Q (.bl (plainsD n d)) H') : spArePlain K [v, .int n] H Q E := ⟨v, d, n, rfl, h, s, z, k⟩
theorem ap_isStep (h : Dp K H v d) (s : SeqAt.shaped d = true) (z : Sz2 d) (k : ∀ H', Kp [] H H' → Q (.bl (stepD n d)) H') : spIsStep K [v, .int n] H Q E := ⟨v, d, n, rfl, h, s, z, k⟩
end
theorem kit_no {d : PyData} (h : ¬ tyD d = "tuple") : kitB (tyD d) "tuple" = some false := by
  cases d with
  | tuple _ => exact absurd rfl h
  | none => show kitB "NoneType" "tuple" = _; decide +kernel
  | bool _ => show kitB "bool" "tuple" = _; decide +kernel
  | int _ => show kitB "int" "tuple" = _; decide +kernel
  | str _ => show kitB "str" "tuple" = _; decide +kernel
  | list _ => show kitB "list" "tuple" = _; decide +kernel
  | dict _ => show kitB "dict" "tuple" = _; decide +kernel
theorem not_tup {d : PyData} (h : tyD d = "tuple") (n : ∀ ds, d = .tuple ds → False) : False := by
  cases d with
  | tuple ds => exact n ds rfl
  | none => exact absurd (show "NoneType" = "tuple" from h) (by decide)
  | bool _ => exact absurd (show "bool" = "tuple" from h) (by decide)
  | int _ => exact absurd (show "int" = "tuple" from h) (by decide)
  | str _ => exact absurd (show "str" = "tuple" from h) (by decide)
  | list _ => exact absurd (show "list" = "tuple" from h) (by decide)
  | dict _ => exact absurd (show "dict" = "tuple" from h) (by decide)
def neTup : PyData → Bool
  | .tuple (_ :: _) => true
  | _ => false
theorem dp_item {K : PySem.W.Frag} {H : Hp} {xs : List V} {ds : List PyData} {i : Nat} {x : V} (h : DpAll K H xs ds) (hx : xs[i]? = some x) : ∃ d, ds[i]? = some d ∧ Dp K H x d := by
  have hi : i < ds.length := by
    have h1 := (List.getElem?_eq_some_iff.mp hx).1
    have h2 := dpA_len h
    omega
  obtain ⟨y, hy, hd⟩ := dpA_get (i := i) (d := ds[i]) h (List.getElem?_eq_getElem hi)
  rw [hx] at hy
  cases hy
  exact ⟨_, List.getElem?_eq_getElem hi, hd⟩
theorem take_next {α β : Type} {l : List α} {i : Nat} {e : α} {g : α → β} (h : l[i]? = some e) : (l.take (i + 1)).map g = (l.take i).map g ++ [g e] := by
  rw [List.take_add_one, h, List.map_append]
  rfl
end WZ

/-! wheels turned: the mathematics -/
namespace WZ
open PySem PySem.Spec PyProof.Rows L2 StX
def carry (c : Int) : List Int → List Int → Int → List Int
  | z :: zs, s :: ss, b => if b = 0 then z :: zs else
    (z + b - (if s ≤ z + b then 1 else if z + b < 0 then -1 else 0) * s) :: carry c zs ss ((if s ≤ z + b then 1 else if z + b < 0 then -1 else 0) * c)
  | zs, _, _ => zs
def turnZ (s z : List Int) (w : Nat) (b c : Int) : List Int := z.take w ++ carry c (z.drop w) (s.drop w) b
def plZ (s z : List Int) : Pl → List Int
  | .turn w b k => turnZ s z w b k.c
  | .set w p => z.set w (if 0 ≤ p then p else s.getD w 0 + p)
def plsZ (s z : List Int) (l : List Pl) : List Int := l.foldl (plZ s) z
def stZ (s z : List Int) : Stp → List Int
  | .pl p => plZ s z p
  | .alike a b f g => plsZ s z (if z.getD a 0 = z.getD b 0 then f else g)
def runZ (s z : List Int) (l : List Stp) : List Int := l.foldl (stZ s) z
theorem carry_zero (c : Int) : ∀ (z s : List Int), carry c z s 0 = z
  | [], _ => by cases ‹List Int› <;> rfl
  | z :: zs, [] => rfl
  | z :: zs, s :: ss => by simp [carry]
theorem turnZ_zero (s z : List Int) (w : Nat) (c : Int) : turnZ s z w 0 c = z := by
  rw [turnZ, carry_zero, List.take_append_drop]
theorem turnZ_end {s z : List Int} {w : Nat} {b c : Int} (h : z.length ≤ w) : turnZ s z w b c = z := by
  rw [turnZ, List.take_of_length_le h, List.drop_eq_nil_of_le h]
  simp [carry]
theorem carry_len (c : Int) : ∀ (z s : List Int) (b : Int), (carry c z s b).length = z.length
  | [], _, _ => by simp [carry]
  | z :: zs, [], _ => rfl
  | z :: zs, s :: ss, b => by
    unfold carry
    split
    · rfl
    · simp [carry_len c zs ss]
theorem turnZ_len (s z : List Int) (w : Nat) (b c : Int) : (turnZ s z w b c).length = z.length := by
  simp [turnZ, carry_len]
  omega
theorem plZ_len (s z : List Int) (p : Pl) : (plZ s z p).length = z.length := by
  cases p with
  | turn w b k => exact turnZ_len _ _ _ _ _
  | set w p => simp [plZ]
theorem plsZ_len (s : List Int) : ∀ (l : List Pl) (z : List Int), (plsZ s z l).length = z.length
  | [], _ => rfl
  | p :: r, z => by
    show (plsZ s (plZ s z p) r).length = _
    rw [plsZ_len s r, plZ_len]
theorem stZ_len (s z : List Int) (p : Stp) : (stZ s z p).length = z.length := by
  cases p with
  | pl p => exact plZ_len _ _ _
  | alike a b f g => exact plsZ_len _ _ _
theorem runZ_len (s : List Int) : ∀ (l : List Stp) (z : List Int), (runZ s z l).length = z.length
  | [], _ => rfl
  | p :: r, z => by
    show (runZ s (stZ s z p) r).length = _
    rw [runZ_len s r, stZ_len]
/-- one turn of the loop -/
theorem turnZ_step {s z : List Int} {w : Nat} {b c x y : Int} (hb : b ≠ 0) (hx : z[w]? = some x) (hy : s[w]? = some y) :
    turnZ s z w b c = turnZ s (z.set w (x + b - (if y ≤ x + b then 1 else if x + b < 0 then -1 else 0) * y)) (w + 1) ((if y ≤ x + b then 1 else if x + b < 0 then -1 else 0) * c) c := by
  have hw : w < z.length := (List.getElem?_eq_some_iff.mp hx).1
  have hs : w < s.length := (List.getElem?_eq_some_iff.mp hy).1
  have ex : z[w] = x := (List.getElem?_eq_some_iff.mp hx).2
  have ey : s[w] = y := (List.getElem?_eq_some_iff.mp hy).2
  unfold turnZ
  rw [List.drop_eq_getElem_cons hw, List.drop_eq_getElem_cons hs, ex, ey]
  conv => lhs; unfold carry
  rw [if_neg hb, List.take_add_one, List.getElem?_set_self hw, List.take_set, List.drop_set_of_lt (by omega), List.set_eq_of_length_le (by simp; omega)]
  simp

theorem cutV_take (xs : List V) (k : Nat) : cutV xs none (some (k : Int)) = xs.take k := by
  unfold cutV
  rw [HT.sIx_none, show HT.sIx xs.length xs.length (some (k : Int)) = min k xs.length from HT.sIx_nat _ _ k, List.drop_zero, Nat.sub_zero]
  rw [List.take_eq_take_iff]
  omega
theorem cutV_drop (xs : List V) (k : Nat) : cutV xs (some (k : Int)) none = xs.drop k := by
  unfold cutV
  rw [HT.sIx_none, show HT.sIx xs.length 0 (some (k : Int)) = min k xs.length from HT.sIx_nat _ _ k]
  by_cases h : k ≤ xs.length
  · rw [Nat.min_eq_left h, List.take_of_length_le (by rw [List.length_drop]; exact Nat.le_refl _)]
  · rw [Nat.min_eq_right (by omega), List.drop_length, List.drop_eq_nil_of_le (by omega)]
    simp
def Stp.dep : Stp → Nat
  | .pl _ => 0
  | .alike _ _ _ _ => 1
/-- the written dict of what is taken along -/
def TakenT (K : PySem.W.Frag) (w : World) (a : Addr) : Prop := ∀ k : Wd, KDct K w a k.s (.int k.c)
theorem g_taken {K : PySem.W.Frag} {w : World} {p : Addr} {kd : Wd} {H : Hp} {Q : VK} (T : TakenT K w p) (k : Q (.int kd.c) H) : rIxD K w (.ref p) (.str kd.s) H Q := g_ixD (T kd) k
/-- a tuple at a; where b says so, one of the heap's own -/
def SqB (K : PySem.W.Frag) (b : Bool) (H : Hp) (a : Addr) (xs : List V) : Prop := SqT K H a xs ∧ (b = true → H a = some (.tup xs))
theorem SqB.tr {K : PySem.W.Frag} {H : Hp} {a : Addr} {xs : List V} (h : SqB K true H a xs) : H a = some (.tup xs) := h.2 rfl
theorem SqB.of {K : PySem.W.Frag} {H : Hp} {a : Addr} {xs : List V} (h : SqT K H a xs) : SqB K false H a xs := ⟨h, fun z => nomatch z⟩
theorem SqB.at_ {K : PySem.W.Frag} {b : Bool} {H : Hp} {a : Addr} {xs : List V} (h : H a = some (.tup xs)) : SqB K b H a xs := ⟨SqT.of h, fun _ => h⟩
theorem Kp.sqB {K : PySem.W.Frag} {b : Bool} {M : List Addr} {H H' : Hp} {a : Addr} {xs : List V} (k : Kp M H H') (h : SqB K b H a xs) : SqB K b H' a xs := ⟨k.sqT h.1, fun e => k.tups _ _ (h.2 e)⟩
def spTurned (K : PySem.W.Frag) : Sp := fun vs H Q _ => ∃ (a b : Addr) (z s : List Int) (wh : Nat) (by_ : Int) (kd : Wd), vs = [.ref a, .ref b, .int wh, .int by_, .str kd.s] ∧ SqT K H a (vI z) ∧ SqT K H b (vI s) ∧ z.length = s.length ∧ s.length ≤ 1000 ∧ -2 ≤ by_ ∧ by_ ≤ 2 ∧
  ∀ (p : Addr) (H' : Hp), Kp [] H H' → H' p = some (.tup (vI (turnZ s z wh by_ kd.c))) → Q (.ref p) H'
def spStepped (K : PySem.W.Frag) (n : Nat) : Sp := fun vs H Q _ => ∃ (τ : Bool) (a b : Addr) (z s : List Int) (v : V) (st : Stp), vs = [.ref a, .ref b, v] ∧ SqB K τ H a (vI z) ∧ SqT K H b (vI s) ∧ z.length = s.length ∧ s.length ≤ 1000 ∧ Td K H v st.dat ∧ st.ok s.length ∧ st.dep ≤ n ∧
  ∀ (p : Addr) (H' : Hp), Kp [] H H' → SqB K τ H' p (vI (stZ s z st)) → Q (.ref p) H'
def spRan (K : PySem.W.Frag) (n : Nat) : Sp := fun vs H Q _ => ∃ (τ : Bool) (a b t : Addr) (z s : List Int) (xs : List V) (l : List Stp), vs = [.ref a, .ref b, .ref t] ∧ SqB K τ H a (vI z) ∧ SqT K H b (vI s) ∧ z.length = s.length ∧ s.length ≤ 1000 ∧ SqT K H t xs ∧ TdA K H xs (l.map Stp.dat) ∧ StepsOk s.length l ∧ (∀ st ∈ l, st.dep < n) ∧ 0 < n ∧
  ∀ (p : Addr) (H' : Hp), Kp [] H H' → SqB K τ H' p (vI (runZ s z l)) → Q (.ref p) H'
section
variable {K : PySem.W.Frag} {H : Hp} {Q : VK} {E : XK} {a b t : Addr} {z s : List Int}
theorem ap_turned {wh : Nat} {by_ : Int} {kd : Wd} (hz : SqT K H a (vI z)) (hs : SqT K H b (vI s)) (hl : z.length = s.length) (h1 : s.length ≤ 1000) (h2 : -2 ≤ by_) (h3 : by_ ≤ 2) (k : ∀ (p : Addr) (H' : Hp), Kp [] H H' → H' p = some (.tup (vI (turnZ s z wh by_ kd.c))) → Q (.ref p) H') :
    spTurned K [.ref a, .ref b, .int wh, .int by_, .str kd.s] H Q E := ⟨a, b, z, s, wh, by_, kd, rfl, hz, hs, hl, h1, h2, h3, k⟩
theorem ap_steppedB {n : Nat} {v : V} {st : Stp} {τ : Bool} (hz : SqB K τ H a (vI z)) (hs : SqT K H b (vI s)) (hl : z.length = s.length) (h1 : s.length ≤ 1000) (hv : Td K H v st.dat) (ho : st.ok s.length) (hd : st.dep ≤ n) (k : ∀ (p : Addr) (H' : Hp), Kp [] H H' → SqB K τ H' p (vI (stZ s z st)) → Q (.ref p) H') :
    spStepped K n [.ref a, .ref b, v] H Q E := ⟨τ, a, b, z, s, v, st, rfl, hz, hs, hl, h1, hv, ho, hd, k⟩
theorem ap_ranB {n : Nat} {xs : List V} {l : List Stp} {τ : Bool} (hz : SqB K τ H a (vI z)) (hs : SqT K H b (vI s)) (hl : z.length = s.length) (h1 : s.length ≤ 1000) (ht : SqT K H t xs) (hv : TdA K H xs (l.map Stp.dat)) (ho : StepsOk s.length l) (hd : ∀ st ∈ l, st.dep < n) (hn : 0 < n) (k : ∀ (p : Addr) (H' : Hp), Kp [] H H' → SqB K τ H' p (vI (runZ s z l)) → Q (.ref p) H') :
    spRan K n [.ref a, .ref b, .ref t] H Q E := ⟨τ, a, b, t, z, s, xs, l, rfl, hz, hs, hl, h1, ht, hv, ho, hd, hn, k⟩
theorem ap_stepped {n : Nat} {v : V} {st : Stp} (hz : SqT K H a (vI z)) (hs : SqT K H b (vI s)) (hl : z.length = s.length) (h1 : s.length ≤ 1000) (hv : Td K H v st.dat) (ho : st.ok s.length) (hd : st.dep ≤ n) (k : ∀ (p : Addr) (H' : Hp), Kp [] H H' → SqT K H' p (vI (stZ s z st)) → Q (.ref p) H') :
    spStepped K n [.ref a, .ref b, v] H Q E := ⟨false, a, b, z, s, v, st, rfl, .of hz, hs, hl, h1, hv, ho, hd, fun p H' k' s' => k p H' k' s'.1⟩
theorem ap_ran {n : Nat} {xs : List V} {l : List Stp} (hz : SqT K H a (vI z)) (hs : SqT K H b (vI s)) (hl : z.length = s.length) (h1 : s.length ≤ 1000) (ht : SqT K H t xs) (hv : TdA K H xs (l.map Stp.dat)) (ho : StepsOk s.length l) (hd : ∀ st ∈ l, st.dep < n) (hn : 0 < n) (k : ∀ (p : Addr) (H' : Hp), Kp [] H H' → SqT K H' p (vI (runZ s z l)) → Q (.ref p) H') :
    spRan K n [.ref a, .ref b, .ref t] H Q E := ⟨false, a, b, t, z, s, xs, l, rfl, .of hz, hs, hl, h1, ht, hv, ho, hd, hn, fun p H' k' s' => k p H' k' s'.1⟩
end
theorem runZ_pls (s : List Int) : ∀ (l : List Pl) (z : List Int), runZ s z (l.map .pl) = plsZ s z l
  | [], _ => rfl
  | p :: r, z => runZ_pls s r (plZ s z p)
theorem pls_dat (l : List Pl) : (l.map Stp.pl).map Stp.dat = l.map Pl.dat := by
  rw [List.map_map]
  rfl
end WZ

/-! t * n of a tuple that is not empty, n from 1 on -/
namespace WZ
open PySem PySem.Spec PyProof.Rows L2
open AutoSeq1 (wpAny_loadPart')
theorem tuple_mul1 (l : Addr) (items : Array Value) (n : Nat) (dd : Option Addr) (sl : Array (Option Value)) (u : Tok) (k : Int) (c1 : (items.isEmpty || k == 1) = true) (k1 : 1 ≤ k) (k2 : k ≤ 1000) :
    Meets (Builtin.«tuple.__mul__» ⟨[.ref l, .int k u], []⟩) (fun _ R s => s.heap.get? l = some { cls := .type "tuple", dict := dd, data := .seq items n, slots := sl } ∧ R (.ok (.ret (Value.ref l))) s) :=
  .of_wp fun prog w A R s h => by
    obtain ⟨hp, g, d, tk, os⟩ := s
    obtain ⟨hl, h⟩ := h
    have f1 := AutoSeq1.idx_int
    have c2 : (decide (k < -(2 ^ 63)) || decide (k ≥ 2 ^ 63)) = false := by
      rw [Bool.or_eq_false_iff, decide_eq_false_iff_not, decide_eq_false_iff_not]
      omega
    wp_walk using wpAny_loadPart' hl
    repeat (first
      | (refine wpAny_ite_false (decide_eq_false (by rw [c2]; decide)) ?_; wp_walk using wpAny_loadPart' hl)
      | (refine wpAny_ite_true (decide_eq_true c1) ?_; wp_walk using wpAny_loadPart' hl))
    exact ⟨_, rfl, h⟩
def rRepA (K : PySem.W.Frag) : R2 := fun x y H Q => ∃ l k xs, x = .ref l ∧ y = .int k ∧ SqT K H l xs ∧ 1 ≤ k ∧ k ≤ 1000 ∧ xs.length ≤ 1000 ∧ ∀ p H', Kp [] H H' → SqT K H' p (List.replicate k.toNat xs).flatten → (H l = some (.tup xs) → H' p = some (.tup (List.replicate k.toNat xs).flatten)) → Q (.ref p) H'
theorem op_repA {X : Cx} : OpR X (binaryOp .Mult) (rRepA X.K) := by
  intro pins s σ H x y v u Q I rx ry h
  obtain ⟨l, k, xs, rfl, rfl, hT, h1, h2, hz, q⟩ := h
  by_cases hk : k = 1 ∨ xs = []
  · cases rx
    obtain ⟨t, rfl⟩ := ry
    obtain ⟨its, r, ⟨⟨cls, dd, data, sl⟩, ho, hc, n, hd⟩, hs⟩ := I.tuple hT
    simp only at hc hd
    subst hc hd
    have c1 : (its.toArray.isEmpty || k == 1) = true := by
      rcases hk with e | e
      · subst e
        simp
      · subst e
        cases r
        rfl
    have e : (List.replicate k.toNat xs).flatten = xs := by
      rcases hk with e | e
      · subst e
        simp
      · subst e
        simp
    refine wpAny_binaryOp_repeat_ref (T := "tuple") (U := "int") (by decide) ⟨_, ho, rfl⟩ (fun s' => typeIs_int s' k t) noFill_tuple_mul F.fills_int_mul F.slot_int_rmul repeat_tuple F.slot_int_index.lookup
      (call_meets F.slot_int_rmul (typeIs_int s k t) F.entry_int_rmul (F.args_int_rmul_2 _ _) (int_rmul_tuple k t l its.toArray n dd sl)
        ⟨ho, rfl, ⟨_, ho, rfl⟩, call_meets F.slot_tuple_mul ⟨_, ho, rfl⟩ F.entry_tuple_mul (F.args_tuple_mul_2 _ _) (tuple_mul1 l its.toArray n dd sl t k c1 h1 h2) ⟨ho, ?_⟩⟩)
    refine ⟨.ref l, H, I, rfl, q l H (Kp.refl H) ?_ ?_⟩
    · rw [e]
      exact hT
    · rw [e]
      exact id
  · exact op_repT pins s σ H _ _ v u Q I rx ry ⟨l, k, xs, rfl, rfl, hT, fun e => hk (.inr e), by omega, h2, hz, fun p n => q p _ (Kp.new n) (SqT.of upd_same) fun _ => upd_same⟩
theorem op_repAK {X : Cx} {K : PySem.W.Frag} (h : X.K = K := by rfl) : OpR X (binaryOp .Mult) (rRepA K) := h ▸ op_repA
theorem g_repA {K : PySem.W.Frag} {H : Hp} {Q : VK} {l : Addr} {k : Int} {xs : List V} (hT : SqT K H l xs) (hne : xs ≠ []) (h1 : 1 ≤ k) (h2 : k ≤ 1000) (hz : xs.length ≤ 1000) (q : ∀ p H', Kp [] H H' → SqT K H' p (List.replicate k.toNat xs).flatten → Q (.ref p) H') : rRepA K (.ref l) (.int k) H Q :=
  ⟨l, k, xs, rfl, rfl, hT, h1, h2, hz, fun p H' k s _ => q p H' k s⟩
theorem g_repB {K : PySem.W.Frag} {H : Hp} {Q : VK} {l : Addr} {k : Int} {xs : List V} (hT : H l = some (.tup xs)) (hne : xs ≠ []) (h1 : 1 ≤ k) (h2 : k ≤ 1000) (hz : xs.length ≤ 1000) (q : ∀ p H', Kp [] H H' → H' p = some (.tup (List.replicate k.toNat xs).flatten) → Q (.ref p) H') : rRepA K (.ref l) (.int k) H Q :=
  ⟨l, k, xs, rfl, rfl, SqT.of hT, h1, h2, hz, fun p H' k _ s => q p H' k (s hT)⟩
theorem g_repE {K : PySem.W.Frag} {H : Hp} {Q : VK} {l : Addr} {k : Int} {xs : List V} (hT : SqT K H l xs) (h1 : 1 ≤ k) (h2 : k ≤ 1000) (hz : xs.length ≤ 1000) (q : ∀ p H', Kp [] H H' → SqT K H' p (List.replicate k.toNat xs).flatten → Q (.ref p) H') : rRepA K (.ref l) (.int k) H Q :=
  ⟨l, k, xs, rfl, rfl, hT, h1, h2, hz, fun p H' k s _ => q p H' k s⟩
theorem rep_one {k : Int} (v : V) : (List.replicate k.toNat [v]).flatten = List.replicate k.toNat v := by
  generalize k.toNat = n
  induction n with
  | zero => rfl
  | succ n ih => rw [List.replicate_succ, List.flatten_cons, ih]; rfl
end WZ

/-! scripts, and what is promised of them -/
namespace WZ
open PySem PySem.Spec PyProof.Rows L2 StX
structure ScT (K : PySem.W.Frag) (C : Addr) : Prop where
  cl : Cls K C
  nM : NoAttr K C "many"
  nR : NoAttr K C "rows"
def scF (n : Nat) (v : V) : List (Str × V) := putF "rows" v (putF "many" (.int n) [])
theorem mr : ¬ (("many" : Str) = "rows") := by decide +kernel
theorem scF_many (n : Nat) (v : V) : (scF n v).lookup ("many" : Str) = some (.int n) := by
  unfold scF
  rw [lookup_putF, if_neg mr, lookup_putF, if_pos rfl]
theorem scF_rows (n : Nat) (v : V) : (scF n v).lookup ("rows" : Str) = some v := by
  unfold scF
  rw [lookup_putF, if_pos rfl]
theorem putF_len1 (f : Str) (v : V) : (putF f v []).length < 1000 := by
  have := length_putF f v []
  simp at this
  omega
/-- a Script of n wheels with the steps l stands at a -/
structure Scr (K : PySem.W.Frag) (C : Addr) (H : Hp) (a : Addr) (n : Nat) (l : List Stp) : Prop where
  at_ : ∃ dx v, H a = some (.ins C dx (scF n v)) ∧ Td K H v (dSteps l)
  ok : StepsOk n l
  cn : cnts l ≤ 5
  n1 : 1 ≤ n
  n3 : n ≤ 3
section
variable {K : PySem.W.Frag} {C : Addr} {H H' : Hp} {a : Addr} {n : Nat} {l : List Stp} {Q : VK} {E : XK} {M : List Addr}
theorem Kp.scr (k : Kp M H H') (s : Scr K C H a n l) (h : a ∉ M) : Scr K C H' a n l := by
  obtain ⟨dx, v, e, t⟩ := s.at_
  exact ⟨⟨dx, v, k.at_ e h, k.td t⟩, s.ok, s.cn, s.n1, s.n3⟩
theorem Scr.ne {p : Addr} (s : Scr K C H a n l) (h : H p = none) : p ≠ a := by
  obtain ⟨dx, v, e, t⟩ := s.at_
  exact (ne_of_none e h).symm
theorem g_many (T : ScT K C) (s : Scr K C H a n l) (k : Q (.int n) H) : xFld K "many" Q (.ref a) H := by
  obtain ⟨dx, v, e, t⟩ := s.at_
  exact g_xFld e T.cl T.nM (scF_many n v) k
theorem g_rows (T : ScT K C) (s : Scr K C H a n l) (k : ∀ (p : Addr) (xs : List V), SqT K H p xs → TdA K H xs (l.map Stp.dat) → Q (.ref p) H) : xFld K "rows" Q (.ref a) H := by
  obtain ⟨dx, v, e, t⟩ := s.at_
  obtain ⟨p, xs, rfl, h1, h2⟩ := t.inv
  exact g_xFld e T.cl T.nR (scF_rows n _) (k p xs h1 h2)
end
/-! all steps, those within others too -/
def Stp.inner : Stp → List Stp
  | .pl _ => []
  | .alike _ _ f g => (f ++ g).map .pl
def flat (l : List Stp) : List Stp := l.flatMap fun s => s :: s.inner
theorem flat_len : ∀ l : List Stp, (flat l).length = cnts l
  | [] => rfl
  | s :: r => by
    have h := flat_len r
    show (s :: s.inner ++ flat r).length = s.cnt + cnts r
    rw [List.length_append, h]
    cases s <;> simp [Stp.inner, Stp.cnt] <;> omega
theorem flat_app (a b : List Stp) : flat (a ++ b) = flat a ++ flat b := by simp [flat]
/-! sizes -/
def SzOk (s : List Int) : Prop := ∀ x ∈ s, 2 ≤ x ∧ x ≤ 10 ^ 30
def sizesD (n : Nat) : PyData → Bool
  | .tuple ds => decide (ds.length = n) && ds.all (intIn 2 (10 ^ 30))
  | _ => false
theorem sizesD_ok {s : List Int} (h : SzOk s) : sizesD s.length (dInts s) = true := by
  simp only [sizesD, dInts, List.length_map, decide_true, Bool.true_and, List.all_eq_true, List.mem_map]
  rintro _ ⟨x, hx, rfl⟩
  obtain ⟨h1, h2⟩ := h x hx
  simp only [intIn, Bool.and_eq_true, decide_eq_true_eq]
  exact ⟨h1, h2⟩
def zeros (n : Nat) : List Int := List.replicate n 0
def shownZ (s : List Int) (l : List Stp) : List Int := runZ s (zeros s.length) l
def traceZ (s : List Int) (l : List Stp) : List (List Int) := (List.range (l.length + 1)).map fun i => shownZ s (l.take i)
theorem shownZ_snoc (s : List Int) (l : List Stp) (st : Stp) : shownZ s (l ++ [st]) = stZ s (shownZ s l) st := by
  unfold shownZ runZ
  rw [List.foldl_append]
  rfl
theorem zeros_len (n : Nat) : (zeros n).length = n := List.length_replicate
theorem shownZ_len (s : List Int) (l : List Stp) : (shownZ s l).length = s.length := by rw [shownZ, runZ_len, zeros_len]
def spAllPlain (K : PySem.W.Frag) : Sp := fun vs H Q _ => ∃ (a : Addr) (xs : List V) (l : List Stp), vs = [.ref a] ∧ SqT K H a xs ∧ TdA K H xs (l.map Stp.dat) ∧ cnts l ≤ 1000 ∧
  ∀ (p : Addr) (ws : List V) (H' : Hp), H p = none → Kp [] H H' → H' p = some (.lst ws) → TdA K H' ws ((flat l).map Stp.dat) → Q (.ref p) H'
def spInit (K : PySem.W.Frag) (C : Addr) : Sp := fun vs H Q _ => ∃ (p dx : Addr) (n : Nat) (v : V) (l : List Stp), vs = [.ref p, .int n, v] ∧ H p = some (.ins C dx []) ∧ Td K H v (dSteps l) ∧ StepsOk n l ∧ cnts l ≤ 5 ∧ 1 ≤ n ∧ n ≤ 3 ∧
  ∀ (H' : Hp), Kp [p] H H' → Scr K C H' p n l → Q .non H'
def spFirst (K : PySem.W.Frag) : Sp := fun vs H Q _ => ∃ (b : Addr) (s : List Int), vs = [.ref b] ∧ SqT K H b (vI s) ∧ 1 ≤ s.length ∧ s.length ≤ 1000 ∧ ∀ (p : Addr) (H' : Hp), Kp [] H H' → H' p = some (.tup (vI (zeros s.length))) → Q (.ref p) H'
def spShownBy (K : PySem.W.Frag) (C : Addr) : Sp := fun vs H Q _ => ∃ (a b : Addr) (n : Nat) (l : List Stp) (s : List Int), vs = [.ref a, .ref b] ∧ Scr K C H a n l ∧ SqT K H b (vI s) ∧ s.length = n ∧
  ∀ (p : Addr) (H' : Hp), Kp [] H H' → H' p = some (.tup (vI (shownZ s l))) → Q (.ref p) H'
def spAreSizes (K : PySem.W.Frag) : Sp := fun vs H Q _ => ∃ (v : V) (d : PyData) (n : Nat), vs = [v, .int n] ∧ Dp K H v d ∧ Sz1 d ∧ ∀ H', Kp [] H H' → Q (.bl (sizesD n d)) H'
def spCheckSizes (K : PySem.W.Frag) : Sp := fun vs H Q _ => ∃ (v : V) (d : PyData) (n : Nat), vs = [v, .int n] ∧ Dp K H v d ∧ Sz1 d ∧ sizesD n d = true ∧ ∀ H', Kp [] H H' → Q .non H'
def spShown (K : PySem.W.Frag) (C : Addr) : Sp := fun vs H Q _ => ∃ (a b : Addr) (n : Nat) (l : List Stp) (s : List Int), vs = [.ref a, .ref b] ∧ Scr K C H a n l ∧ SqT K H b (vI s) ∧ s.length = n ∧ SzOk s ∧
  ∀ (p : Addr) (H' : Hp), Kp [] H H' → SqT K H' p (vI (shownZ s l)) → Q (.ref p) H'
def spTrace (K : PySem.W.Frag) (C : Addr) : Sp := fun vs H Q _ => ∃ (a b : Addr) (n : Nat) (l : List Stp) (s : List Int), vs = [.ref a, .ref b] ∧ Scr K C H a n l ∧ SqT K H b (vI s) ∧ s.length = n ∧ SzOk s ∧
  ∀ (p : Addr) (ws : List V) (H' : Hp), H p = none → Kp [] H H' → H' p = some (.lst ws) → TdA K H' ws ((traceZ s l).map dInts) → Q (.ref p) H'
section
variable {K : PySem.W.Frag} {C : Addr} {H : Hp} {a b : Addr} {n : Nat} {l : List Stp} {Q : VK} {E : XK} {s : List Int}
theorem ap_allPlain {xs : List V} (h : SqT K H a xs) (t : TdA K H xs (l.map Stp.dat)) (c : cnts l ≤ 1000) (k : ∀ (p : Addr) (ws : List V) (H' : Hp), H p = none → Kp [] H H' → H' p = some (.lst ws) → TdA K H' ws ((flat l).map Stp.dat) → Q (.ref p) H') : spAllPlain K [.ref a] H Q E := ⟨a, xs, l, rfl, h, t, c, k⟩
theorem ap_firstB (h : SqT K H b (vI s)) (h1 : 1 ≤ s.length) (h2 : s.length ≤ 1000) (k : ∀ (p : Addr) (H' : Hp), Kp [] H H' → H' p = some (.tup (vI (zeros s.length))) → Q (.ref p) H') : spFirst K [.ref b] H Q E := ⟨b, s, rfl, h, h1, h2, k⟩
theorem ap_shownByB (h : Scr K C H a n l) (hs : SqT K H b (vI s)) (hl : s.length = n) (k : ∀ (p : Addr) (H' : Hp), Kp [] H H' → H' p = some (.tup (vI (shownZ s l))) → Q (.ref p) H') : spShownBy K C [.ref a, .ref b] H Q E := ⟨a, b, n, l, s, rfl, h, hs, hl, k⟩
theorem ap_first (h : SqT K H b (vI s)) (h1 : 1 ≤ s.length) (h2 : s.length ≤ 1000) (k : ∀ (p : Addr) (H' : Hp), Kp [] H H' → SqT K H' p (vI (zeros s.length)) → Q (.ref p) H') : spFirst K [.ref b] H Q E := ⟨b, s, rfl, h, h1, h2, fun p H' k' s' => k p H' k' (SqT.of s')⟩
theorem ap_shownBy (h : Scr K C H a n l) (hs : SqT K H b (vI s)) (hl : s.length = n) (k : ∀ (p : Addr) (H' : Hp), Kp [] H H' → SqT K H' p (vI (shownZ s l)) → Q (.ref p) H') : spShownBy K C [.ref a, .ref b] H Q E := ⟨a, b, n, l, s, rfl, h, hs, hl, fun p H' k' s' => k p H' k' (SqT.of s')⟩
theorem ap_areSizes {v : V} {d : PyData} (h : Dp K H v d) (z : Sz1 d) (k : ∀ H', Kp [] H H' → Q (.bl (sizesD n d)) H') : spAreSizes K [v, .int n] H Q E := ⟨v, d, n, rfl, h, z, k⟩
theorem ap_checkSizes (hs : SqT K H b (vI s)) (hl : s.length = n) (ho : SzOk s) (h1 : s.length ≤ 1000) (k : ∀ H', Kp [] H H' → Q .non H') : spCheckSizes K [.ref b, .int n] H Q E :=
  ⟨.ref b, dInts s, n, rfl, (Td.vI hs).dp, fun ds e => by cases e; rw [List.length_map]; exact h1, by rw [← hl]; exact sizesD_ok ho, k⟩
theorem ap_shown (h : Scr K C H a n l) (hs : SqT K H b (vI s)) (hl : s.length = n) (ho : SzOk s) (k : ∀ (p : Addr) (H' : Hp), Kp [] H H' → SqT K H' p (vI (shownZ s l)) → Q (.ref p) H') : spShown K C [.ref a, .ref b] H Q E := ⟨a, b, n, l, s, rfl, h, hs, hl, ho, k⟩
theorem ap_trace (h : Scr K C H a n l) (hs : SqT K H b (vI s)) (hl : s.length = n) (ho : SzOk s) (k : ∀ (p : Addr) (ws : List V) (H' : Hp), H p = none → Kp [] H H' → H' p = some (.lst ws) → TdA K H' ws ((traceZ s l).map dInts) → Q (.ref p) H') : spTrace K C [.ref a, .ref b] H Q E := ⟨a, b, n, l, s, rfl, h, hs, hl, ho, k⟩
/-- Script(n, steps): the whole call -/
theorem ap_script {v : V} (h : Td K H v (dSteps l)) (ho : StepsOk n l) (hc : cnts l ≤ 5) (h1 : 1 ≤ n) (h3 : n ≤ 3) (k : ∀ (p : Addr) (H' : Hp), H p = none → Kp [] H H' → Scr K C H' p n l → Q (.ref p) H') : xMk C (spInit K C) E Q [.int n, v] H :=
  g_xMk fun x dx H2 nx k2 e2 => ⟨x, dx, n, v, l, rfl, e2, k2.td h, ho, hc, h1, h3, fun H3 k3 s3 => ⟨rfl, k x H3 nx (k2.step1 k3 (.inr nx)) s3⟩⟩
end
end WZ

/-! the law's own moves are the turns -/
namespace WZ
open PySem PySem.Spec PyProof.Rows L2 StX
def OkZ : List Int → List Int → Prop
  | [], [] => True
  | z :: zs, s :: ss => 0 ≤ z ∧ z < s ∧ OkZ zs ss
  | _, _ => False
theorem OkZ.len : ∀ {z s : List Int}, OkZ z s → z.length = s.length
  | [], [], _ => rfl
  | _ :: _, _ :: _, h => by simp [OkZ.len h.2.2]
  | [], _ :: _, h => h.elim
  | _ :: _, [], h => h.elim
theorem OkZ.get : ∀ {z s : List Int} {i : Nat} {x y : Int}, OkZ z s → z[i]? = some x → s[i]? = some y → 0 ≤ x ∧ x < y
  | _ :: _, _ :: _, 0, _, _, h, hx, hy => by
    simp at hx hy
    subst hx hy
    exact ⟨h.1, h.2.1⟩
  | _ :: _, _ :: _, i + 1, _, _, h, hx, hy => OkZ.get (i := i) h.2.2 (by simpa using hx) (by simpa using hy)
  | [], [], _, _, _, _, hx, _ => by simp at hx
  | [], _ :: _, _, _, _, h, _, _ => h.elim
  | _ :: _, [], _, _, _, h, _, _ => h.elim
theorem OkZ.set : ∀ {z s : List Int} {i : Nat} {x : Int}, OkZ z s → (∀ y, s[i]? = some y → 0 ≤ x ∧ x < y) → OkZ (z.set i x) s
  | _ :: _, s :: _, 0, _, h, hx => ⟨(hx s rfl).1, (hx s rfl).2, h.2.2⟩
  | _ :: _, _ :: _, i + 1, _, h, hx => ⟨h.1, h.2.1, OkZ.set h.2.2 fun y hy => hx y (by simpa using hy)⟩
  | [], [], _, _, h, _ => h
  | [], _ :: _, _, _, h, _ => h.elim
  | _ :: _, [], _, _, h, _ => h.elim
theorem OkZ.zeros : ∀ {s : List Int}, (∀ x ∈ s, 2 ≤ x) → OkZ (zeros s.length) s
  | [], _ => trivial
  | s :: r, h => by
    have := h s List.mem_cons_self
    exact ⟨Int.le_refl 0, by omega, OkZ.zeros fun x hx => h x (List.mem_cons_of_mem _ hx)⟩
theorem carry_ok {c : Int} (hc : c = 1 ∨ c = -1 ∨ c = 0) : ∀ {z s : List Int} {b : Int}, OkZ z s → (∀ x ∈ s, 2 ≤ x) → -2 ≤ b → b ≤ 2 → OkZ (carry c z s b) s
  | [], [], _, h, _, _, _ => h
  | [], _ :: _, _, h, _, _, _ => h.elim
  | _ :: _, [], _, h, _, _, _ => h.elim
  | z :: zs, s :: ss, b, h, hs, h1, h2 => by
    obtain ⟨a1, a2, a3⟩ := h
    have hs2 := hs s List.mem_cons_self
    unfold carry
    split
    · exact ⟨a1, a2, a3⟩
    · split
      · refine ⟨by omega, by omega, carry_ok hc a3 (fun x hx => hs x (List.mem_cons_of_mem _ hx)) ?_ ?_⟩ <;> omega
      · split
        · refine ⟨by omega, by omega, carry_ok hc a3 (fun x hx => hs x (List.mem_cons_of_mem _ hx)) ?_ ?_⟩ <;> omega
        · refine ⟨by omega, by omega, carry_ok hc a3 (fun x hx => hs x (List.mem_cons_of_mem _ hx)) ?_ ?_⟩ <;> omega
theorem OkZ.app : ∀ {z s : List Int} (w : Nat) {z' : List Int}, OkZ z s → OkZ z' (s.drop w) → OkZ (z.take w ++ z') s
  | _, _, 0, _, _, h => h
  | [], [], _ + 1, _, _, h => h
  | _ :: _, _ :: _, w + 1, _, h, h' => ⟨h.1, h.2.1, OkZ.app w h.2.2 h'⟩
  | [], _ :: _, _ + 1, _, h, _ => h.elim
  | _ :: _, [], _ + 1, _, h, _ => h.elim
theorem OkZ.drop : ∀ {z s : List Int} (w : Nat), OkZ z s → OkZ (z.drop w) (s.drop w)
  | _, _, 0, h => h
  | [], [], _ + 1, h => h
  | _ :: _, _ :: _, w + 1, h => OkZ.drop w h.2.2
  | [], _ :: _, _ + 1, h => h.elim
  | _ :: _, [], _ + 1, h => h.elim
theorem wd_c (k : Wd) : k.c = 1 ∨ k.c = -1 ∨ k.c = 0 := by cases k <;> simp [Wd.c]
theorem turnZ_ok {s z : List Int} {w : Nat} {b c : Int} (hc : c = 1 ∨ c = -1 ∨ c = 0) (h : OkZ z s) (hs : ∀ x ∈ s, 2 ≤ x) (h1 : -2 ≤ b) (h2 : b ≤ 2) : OkZ (turnZ s z w b c) s :=
  OkZ.app w h (carry_ok hc (h.drop w) (fun x hx => hs x (List.mem_of_mem_drop hx)) h1 h2)
theorem plZ_ok {s z : List Int} {p : Pl} (h : OkZ z s) (hs : ∀ x ∈ s, 2 ≤ x) (hp : p.ok s.length) : OkZ (plZ s z p) s := by
  cases p with
  | turn w b k =>
    obtain ⟨h1, h2⟩ := hp
    exact turnZ_ok (wd_c k) h hs (by omega) (by omega)
  | set w p =>
    obtain ⟨h1, h2, h3⟩ := hp
    refine OkZ.set h fun y hy => ?_
    have hm := hs y (List.mem_of_getElem? hy)
    rw [List.getD_eq_getElem?_getD, hy]
    show 0 ≤ (if 0 ≤ p then p else y + p) ∧ (if 0 ≤ p then p else y + p) < y
    split <;> omega
theorem plsZ_ok {s : List Int} (hs : ∀ x ∈ s, 2 ≤ x) : ∀ {l : List Pl} {z : List Int}, OkZ z s → (∀ p ∈ l, p.ok s.length) → OkZ (plsZ s z l) s
  | [], _, h, _ => h
  | p :: r, _, h, hp => plsZ_ok hs (l := r) (plZ_ok h hs (hp p List.mem_cons_self)) fun q hq => hp q (List.mem_cons_of_mem _ hq)
theorem stZ_ok {s z : List Int} {p : Stp} (h : OkZ z s) (hs : ∀ x ∈ s, 2 ≤ x) (hp : p.ok s.length) : OkZ (stZ s z p) s := by
  cases p with
  | pl p => exact plZ_ok h hs hp
  | alike a b f g =>
    obtain ⟨h1, h2, h3, h4⟩ := hp
    show OkZ (plsZ s z (if z.getD a 0 = z.getD b 0 then f else g)) s
    split
    · exact plsZ_ok hs h h3
    · exact plsZ_ok hs h h4
theorem runZ_ok {s : List Int} (hs : ∀ x ∈ s, 2 ≤ x) : ∀ {l : List Stp} {z : List Int}, OkZ z s → StepsOk s.length l → OkZ (runZ s z l) s
  | [], _, h, _ => h
  | p :: r, _, h, hp => runZ_ok hs (l := r) (stZ_ok h hs (hp p List.mem_cons_self)) fun q hq => hp q (List.mem_cons_of_mem _ hq)
/-- one place is as the law's move says -/
theorem move_one {s z : List Int} {w : Nat} {b c x y : Int} (hb : b = 1 ∨ b = -1) (hx : z[w]? = some x) (hy : s[w]? = some y) (h0 : 0 ≤ x) (h1 : x < y) :
    turnZ s z w b c = if x + b = y ∨ x + b < 0 then turnZ s (z.set w (if b > 0 then 0 else y - 1)) (w + 1) (b * c) c else z.set w (x + b) := by
  rw [turnZ_step (by omega) hx hy]
  by_cases h : y ≤ x + b
  · rw [if_pos h, if_pos (by omega), if_pos (by omega)]
    have e : b = 1 := by omega
    subst e
    rw [show x + 1 - 1 * y = 0 by omega]
  · rw [if_neg h]
    by_cases h2 : x + b < 0
    · rw [if_pos h2, if_pos (.inr h2), if_neg (by omega)]
      have e : b = -1 := by omega
      subst e
      rw [show x + -1 - -1 * y = y - 1 by omega]
    · rw [if_neg h2, if_neg (by omega), Int.zero_mul, Int.zero_mul, turnZ_zero, Int.sub_zero]
theorem carry_hi {c z s b : Int} {zs ss : List Int} (hb : b ≠ 0) (h : s ≤ z + b) : carry c (z :: zs) (s :: ss) b = (z + b - s) :: carry c zs ss c := by
  conv => lhs; unfold carry
  rw [if_neg hb, if_pos h, Int.one_mul, Int.one_mul]
theorem carry_lo {c z s b : Int} {zs ss : List Int} (hb : b ≠ 0) (h : ¬ s ≤ z + b) (h' : z + b < 0) : carry c (z :: zs) (s :: ss) b = (z + b + s) :: carry c zs ss (-1 * c) := by
  conv => lhs; unfold carry
  rw [if_neg hb, if_neg h, if_pos h', show z + b - -1 * s = z + b + s by omega]
theorem carry_mid {c z s b : Int} {zs ss : List Int} (h : ¬ s ≤ z + b) (h' : ¬ z + b < 0) : carry c (z :: zs) (s :: ss) b = (z + b) :: zs := by
  by_cases hb : b = 0
  · rw [hb, carry_zero, Int.add_zero]
  · conv => lhs; unfold carry
    rw [if_neg hb, if_neg h, if_neg h', Int.zero_mul, Int.zero_mul, carry_zero, Int.sub_zero]
theorem carry_two {c : Int} {z s : List Int} {b : Int} (hb : b = 1 ∨ b = -1) (h : OkZ z s) (hs : ∀ x ∈ s, 2 ≤ x) : carry c (carry c z s b) s b = carry c z s (2 * b) := by
  cases z with
  | nil => cases s <;> simp [carry]
  | cons z zs => cases s with
    | nil => exact h.elim
    | cons s ss =>
      obtain ⟨a1, a2, a3⟩ := h
      have hs2 := hs s List.mem_cons_self
      rcases hb with rfl | rfl
      · by_cases h1 : s ≤ z + 1
        · rw [carry_hi (by decide) h1, carry_mid (by omega) (by omega), carry_hi (by decide) (by omega)]
          congr 1
          omega
        · rw [carry_mid h1 (by omega)]
          by_cases h2 : s ≤ z + 1 + 1
          · rw [carry_hi (by decide) h2, carry_hi (by decide) (by omega)]
            congr 1
            omega
          · rw [carry_mid h2 (by omega), carry_mid (by omega) (by omega)]
            congr 1
            omega
      · by_cases h1 : z + -1 < 0
        · rw [carry_lo (by decide) (by omega) h1, carry_mid (by omega) (by omega), carry_lo (by decide) (by omega) (by omega)]
          congr 1
          omega
        · rw [carry_mid (by omega) h1]
          by_cases h2 : z + -1 + -1 < 0
          · rw [carry_lo (by decide) (by omega) h2, carry_lo (by decide) (by omega) (by omega)]
            congr 1
            omega
          · rw [carry_mid (by omega) h2, carry_mid (by omega) (by omega)]
            congr 1
            omega
theorem turnZ_two {s z : List Int} {w : Nat} {b c : Int} (hb : b = 1 ∨ b = -1) (h : OkZ z s) (hs : ∀ x ∈ s, 2 ≤ x) (hw : w < z.length) : turnZ s (turnZ s z w b c) w b c = turnZ s z w (2 * b) c := by
  have e1 : (z.take w ++ carry c (z.drop w) (s.drop w) b).take w = z.take w := by
    rw [List.take_append_of_le_length (by simp; omega), List.take_take, Nat.min_self]
  have e2 : (z.take w ++ carry c (z.drop w) (s.drop w) b).drop w = carry c (z.drop w) (s.drop w) b := by
    rw [List.drop_append_of_le_length (by simp; omega), List.drop_eq_nil_of_le (by simp; omega), List.nil_append]
  show (z.take w ++ carry c (z.drop w) (s.drop w) b).take w ++ carry c ((z.take w ++ carry c (z.drop w) (s.drop w) b).drop w) (s.drop w) b = _
  rw [e1, e2, carry_two hb (h.drop w) fun x hx => hs x (List.mem_of_mem_drop hx)]
  rfl
/-! promises -/
def spMove (K : PySem.W.Frag) (n : Nat) : Sp := fun vs H Q _ => ∃ (l b : Addr) (z s : List Int) (wh : Nat) (by_ : Int) (kd : Wd), vs = [.ref l, .ref b, .int wh, .int by_, .str kd.s] ∧ H l = some (.lst (vI z)) ∧ SqT K H b (vI s) ∧ OkZ z s ∧ (∀ x ∈ s, 2 ≤ x) ∧ wh < s.length ∧ s.length ≤ wh + n ∧ (by_ = 1 ∨ by_ = -1) ∧
  ∀ (H' : Hp), Kp [l] H H' → H' l = some (.lst (vI (turnZ s z wh by_ kd.c))) → Q .non H'
def spDo (K : PySem.W.Frag) (n : Nat) : Sp := fun vs H Q _ => ∃ (l b : Addr) (z s : List Int) (v : V) (st : Stp), vs = [.ref l, .ref b, v] ∧ H l = some (.lst (vI z)) ∧ SqT K H b (vI s) ∧ OkZ z s ∧ (∀ x ∈ s, 2 ≤ x) ∧ s.length ≤ 3 ∧ Td K H v st.dat ∧ st.ok s.length ∧ st.dep < n ∧
  ∀ (H' : Hp), Kp [l] H H' → H' l = some (.lst (vI (stZ s z st))) → Q .non H'
def spLRan (K : PySem.W.Frag) : Sp := fun vs H Q _ => ∃ (a b t : Addr) (z s : List Int) (xs : List V) (l : List Stp), vs = [.ref a, .ref b, .ref t] ∧ SqT K H a (vI z) ∧ SqT K H b (vI s) ∧ OkZ z s ∧ (∀ x ∈ s, 2 ≤ x) ∧ s.length ≤ 3 ∧ SqT K H t xs ∧ TdA K H xs (l.map Stp.dat) ∧ StepsOk s.length l ∧
  ∀ (p : Addr) (H' : Hp), Kp [] H H' → SqT K H' p (vI (runZ s z l)) → Q (.ref p) H'
def spLShown (K : PySem.W.Frag) : Sp := fun vs H Q _ => ∃ (b t : Addr) (s : List Int) (xs : List V) (l : List Stp), vs = [.ref b, .ref t] ∧ SqT K H b (vI s) ∧ (∀ x ∈ s, 2 ≤ x) ∧ 1 ≤ s.length ∧ s.length ≤ 3 ∧ SqT K H t xs ∧ TdA K H xs (l.map Stp.dat) ∧ StepsOk s.length l ∧
  ∀ (p : Addr) (H' : Hp), Kp [] H H' → SqT K H' p (vI (shownZ s l)) → Q (.ref p) H'
def spAlike (K : PySem.W.Frag) (n : Nat) : Sp := fun vs H Q _ => ∃ (x y : V) (d : PyData), vs = [x, y] ∧ Dp K H x d ∧ Dp K H y d ∧ SeqAt.shaped d = true ∧ d.depth < n ∧ PyData.weight d ≤ 100000 ∧ ∀ H', Kp [] H H' → Q (.bl true) H'
section
variable {K : PySem.W.Frag} {H : Hp} {Q : VK} {E : XK} {l a b t : Addr} {z s : List Int} {n : Nat}
theorem ap_move {wh : Nat} {by_ : Int} {kd : Wd} (hz : H l = some (.lst (vI z))) (hs : SqT K H b (vI s)) (ok : OkZ z s) (h2 : ∀ x ∈ s, 2 ≤ x) (hw : wh < s.length) (hn : s.length ≤ wh + n) (hb : by_ = 1 ∨ by_ = -1) (k : ∀ (H' : Hp), Kp [l] H H' → H' l = some (.lst (vI (turnZ s z wh by_ kd.c))) → Q .non H') :
    spMove K n [.ref l, .ref b, .int wh, .int by_, .str kd.s] H Q E := ⟨l, b, z, s, wh, by_, kd, rfl, hz, hs, ok, h2, hw, hn, hb, k⟩
theorem ap_do {v : V} {st : Stp} (hz : H l = some (.lst (vI z))) (hs : SqT K H b (vI s)) (ok : OkZ z s) (h2 : ∀ x ∈ s, 2 ≤ x) (h3 : s.length ≤ 3) (hv : Td K H v st.dat) (ho : st.ok s.length) (hd : st.dep < n) (k : ∀ (H' : Hp), Kp [l] H H' → H' l = some (.lst (vI (stZ s z st))) → Q .non H') :
    spDo K n [.ref l, .ref b, v] H Q E := ⟨l, b, z, s, v, st, rfl, hz, hs, ok, h2, h3, hv, ho, hd, k⟩
theorem ap_lran {xs : List V} {l : List Stp} (hz : SqT K H a (vI z)) (hs : SqT K H b (vI s)) (ok : OkZ z s) (h2 : ∀ x ∈ s, 2 ≤ x) (h3 : s.length ≤ 3) (ht : SqT K H t xs) (hv : TdA K H xs (l.map Stp.dat)) (ho : StepsOk s.length l) (k : ∀ (p : Addr) (H' : Hp), Kp [] H H' → SqT K H' p (vI (runZ s z l)) → Q (.ref p) H') :
    spLRan K [.ref a, .ref b, .ref t] H Q E := ⟨a, b, t, z, s, xs, l, rfl, hz, hs, ok, h2, h3, ht, hv, ho, k⟩
theorem ap_lshown {xs : List V} {l : List Stp} (hs : SqT K H b (vI s)) (h2 : ∀ x ∈ s, 2 ≤ x) (h1 : 1 ≤ s.length) (h3 : s.length ≤ 3) (ht : SqT K H t xs) (hv : TdA K H xs (l.map Stp.dat)) (ho : StepsOk s.length l) (k : ∀ (p : Addr) (H' : Hp), Kp [] H H' → SqT K H' p (vI (shownZ s l)) → Q (.ref p) H') :
    spLShown K [.ref b, .ref t] H Q E := ⟨b, t, s, xs, l, rfl, hs, h2, h1, h3, ht, hv, ho, k⟩
theorem ap_alike {x y : V} (d : PyData) (h1 : Dp K H x d) (h2 : Dp K H y d) (hs : SeqAt.shaped d = true) (hd : d.depth < n) (hw : PyData.weight d ≤ 100000) (k : ∀ H', Kp [] H H' → Q (.bl true) H') : spAlike K n [x, y] H Q E := ⟨x, y, d, rfl, h1, h2, hs, hd, hw, k⟩
end
theorem g_isiTL {K : PySem.W.Frag} {H : Hp} {v : V} {d : PyData} {Q : VK} {tp : Addr} (b : Bool) (h : H tp = some (.tup [.ty "tuple", .ty "list"])) (hd : Dp K H v d) (e : b = (decide (tyD d = "tuple") || decide (tyD d = "list"))) (k : Q (.bl b) H) : rIsiT K [v, .ref tp] H Q := by
  refine ⟨v, tp, [.ty "tuple", .ty "list"], .type (tyD d), [.type "tuple", .type "list"], b, rfl, h, .cons (.ty _) (.cons (.ty _) .nil), dp_ty hd, ?_, k⟩
  subst e
  cases d with
  | tuple _ => exact kitAny_cons (b := true) (kit_ty (by show kitB "tuple" "tuple" = _; decide +kernel)) (fun z => nomatch z) fun _ => rfl
  | list _ => exact kitAny_cons (b := false) (kit_ty (by show kitB "list" "tuple" = _; decide +kernel)) (fun _ => kitAny_cons (b := true) (kit_ty (by show kitB "list" "list" = _; decide +kernel)) (fun z => nomatch z) fun _ => rfl) (fun z => nomatch z)
  | none => exact kitAny_cons (b := false) (kit_ty (by show kitB "NoneType" "tuple" = _; decide +kernel)) (fun _ => kitAny_cons (b := false) (kit_ty (by show kitB "NoneType" "list" = _; decide +kernel)) (fun _ => rfl) (fun z => nomatch z)) (fun z => nomatch z)
  | bool _ => exact kitAny_cons (b := false) (kit_ty (by show kitB "bool" "tuple" = _; decide +kernel)) (fun _ => kitAny_cons (b := false) (kit_ty (by show kitB "bool" "list" = _; decide +kernel)) (fun _ => rfl) (fun z => nomatch z)) (fun z => nomatch z)
  | int _ => exact kitAny_cons (b := false) (kit_ty (by show kitB "int" "tuple" = _; decide +kernel)) (fun _ => kitAny_cons (b := false) (kit_ty (by show kitB "int" "list" = _; decide +kernel)) (fun _ => rfl) (fun z => nomatch z)) (fun z => nomatch z)
  | str _ => exact kitAny_cons (b := false) (kit_ty (by show kitB "str" "tuple" = _; decide +kernel)) (fun _ => kitAny_cons (b := false) (kit_ty (by show kitB "str" "list" = _; decide +kernel)) (fun _ => rfl) (fun z => nomatch z)) (fun z => nomatch z)
  | dict _ => cases hd
theorem weight_len : ∀ ds : List PyData, ds.length ≤ PyData.weightAll ds
  | [] => Nat.zero_le _
  | d :: r => by
    have := weight_len r
    simp only [PyData.weightAll, List.length_cons]
    omega
theorem weight_mem : ∀ {ds : List PyData} {d : PyData}, d ∈ ds → d.weight ≤ PyData.weightAll ds
  | e :: r, d, h => by
    simp only [PyData.weightAll]
    rcases List.mem_cons.mp h with z | z
    · subst z
      omega
    · have := weight_mem z
      omega
theorem depth_mem : ∀ {ds : List PyData} {d : PyData}, d ∈ ds → d.depth ≤ PyData.depthAll ds
  | e :: r, d, h => by
    simp only [PyData.depthAll]
    rcases List.mem_cons.mp h with z | z
    · subst z
      omega
    · have := depth_mem z
      omega
theorem shaped_memL {ds : List PyData} (h : SeqAt.shaped (.list ds) = true) : ∀ d ∈ ds, SeqAt.shaped d = true := by
  refine shaped_mem (ds := ds) ?_
  simpa [SeqAt.shaped, PyData.canLay0, PyData.depth] using h
/-- a sequence of either kind -/
def SqLT (K : PySem.W.Frag) (H : Hp) (b : Bool) (p : Addr) (xs : List V) : Prop := if b = true then SqL K H p xs else SqT K H p xs
end WZ

/-! how large what the law compares is -/
namespace WZ
open PySem PySem.Spec PyProof.Rows L2 StX
theorem wt_int {x : Int} (h : x.natAbs < 2 ^ 100) : (PyData.int x).weight ≤ 100 := by
  unfold PyData.weight
  split
  · exact Nat.zero_le _
  · rename_i h0
    have h1 : x.natAbs ≠ 0 := by
      intro z
      apply h0
      rw [Int.natAbs_eq_zero.mp z]
      rfl
    have := (Nat.log2_lt h1).mpr h
    omega
def Sm (z : List Int) : Prop := ∀ x ∈ z, x.natAbs < 2 ^ 100
theorem w_ints : ∀ {z : List Int}, Sm z → PyData.weightAll (z.map PyData.int) ≤ 101 * z.length
  | [], _ => Nat.le_refl _
  | x :: r, h => by
    have h1 := wt_int (h x List.mem_cons_self)
    have h2 := w_ints (z := r) fun y hy => h y (List.mem_cons_of_mem _ hy)
    simp only [List.map_cons, PyData.weightAll, List.length_cons]
    omega
theorem dp_ints : ∀ z : List Int, PyData.depthAll (z.map PyData.int) = 0
  | [] => rfl
  | x :: r => by
    simp only [List.map_cons, PyData.depthAll, PyData.depth]
    rw [dp_ints r]
    rfl
theorem can_ints : ∀ z : List Int, PyData.canLayAll0 (z.map PyData.int) = true
  | [] => rfl
  | x :: r => by
    simp only [List.map_cons, PyData.canLayAll0, PyData.canLay0]
    rw [can_ints r]
    rfl
theorem dInts_w {z : List Int} (h : Sm z) : (dInts z).weight ≤ 101 * z.length := w_ints h
theorem dInts_d (z : List Int) : (dInts z).depth = 1 := by
  show PyData.depthAll (z.map PyData.int) + 1 = 1
  rw [dp_ints]
theorem dInts_s (z : List Int) : SeqAt.shaped (dInts z) = true := by
  unfold SeqAt.shaped
  rw [dInts_d]
  have : (dInts z).canLay0 = true := can_ints z
  rw [this]
  rfl
def dRows (zs : List (List Int)) : PyData := .list (zs.map dInts)
theorem w_rows : ∀ {zs : List (List Int)}, (∀ z ∈ zs, Sm z ∧ z.length ≤ 3) → PyData.weightAll (zs.map dInts) ≤ 304 * zs.length
  | [], _ => Nat.le_refl _
  | z :: r, h => by
    have h1 := dInts_w (h z List.mem_cons_self).1
    have h3 := (h z List.mem_cons_self).2
    have h2 := w_rows (zs := r) fun y hy => h y (List.mem_cons_of_mem _ hy)
    simp only [List.map_cons, PyData.weightAll, List.length_cons]
    omega
theorem dp_rows : ∀ zs : List (List Int), PyData.depthAll (zs.map dInts) ≤ 1
  | [] => Nat.zero_le _
  | z :: r => by
    simp only [List.map_cons, PyData.depthAll]
    rw [dInts_d]
    have := dp_rows r
    omega
theorem lay_rows : ∀ zs : List (List Int), PyData.canLayAll0 (zs.map dInts) = true
  | [] => rfl
  | z :: r => by
    simp only [List.map_cons, PyData.canLayAll0]
    rw [lay_rows r]
    have : (dInts z).canLay0 = true := can_ints z
    rw [this]
    rfl
theorem dRows_w {zs : List (List Int)} (h : ∀ z ∈ zs, Sm z ∧ z.length ≤ 3) : (dRows zs).weight ≤ 304 * zs.length := w_rows h
theorem dRows_d (zs : List (List Int)) : (dRows zs).depth ≤ 2 := by
  show PyData.depthAll (zs.map dInts) + 1 ≤ 2
  have := dp_rows zs
  omega
theorem dRows_s (zs : List (List Int)) : SeqAt.shaped (dRows zs) = true := by
  unfold SeqAt.shaped
  have h1 : (dRows zs).canLay0 = true := lay_rows zs
  have h2 := dRows_d zs
  rw [h1, Bool.true_and]
  exact decide_eq_true (by omega)
theorem OkZ.sm : ∀ {z s : List Int}, OkZ z s → SzOk s → Sm z
  | [], [], _, _ => fun _ h => by cases h
  | x :: z, y :: s, h, hs => fun w hw => by
    rcases List.mem_cons.mp hw with e | e
    · subst e
      have h1 := h.1
      have h2 := h.2.1
      have h3 := (hs y List.mem_cons_self).2
      have h4 : (10 : Int) ^ 30 < 2 ^ 100 := by decide
      have h5 : (2 : Int) ^ 100 = ((2 ^ 100 : Nat) : Int) := by norm_cast
      omega
    · exact OkZ.sm (z := z) (s := s) h.2.2 (fun v hv => hs v (List.mem_cons_of_mem _ hv)) w e
  | [], _ :: _, h, _ => h.elim
  | _ :: _, [], h, _ => h.elim
theorem SzOk.two {s : List Int} (h : SzOk s) : ∀ x ∈ s, 2 ≤ x := fun x hx => (h x hx).1
theorem shownZ_ok {s : List Int} {l : List Stp} (h : SzOk s) (hl : StepsOk s.length l) : OkZ (shownZ s l) s := runZ_ok h.two (OkZ.zeros h.two) hl
theorem StepsOk.take {n : Nat} {l : List Stp} (h : StepsOk n l) (i : Nat) : StepsOk n (l.take i) := fun p hp => h p (List.mem_of_mem_take hp)
theorem StepsOk.drop {n : Nat} {l : List Stp} (h : StepsOk n l) (i : Nat) : StepsOk n (l.drop i) := fun p hp => h p (List.mem_of_mem_drop hp)
theorem SzOk.app {s : List Int} {x : Int} (h : SzOk s) (h1 : 2 ≤ x) (h2 : x ≤ 10 ^ 30) : SzOk (s ++ [x]) := fun y hy => by
  rcases List.mem_append.mp hy with e | e
  · exact h y e
  · rw [List.mem_singleton.mp e]
    exact ⟨h1, h2⟩
theorem SzOk.nil : SzOk [] := fun _ h => by cases h
theorem traceZ_len (s : List Int) (l : List Stp) : (traceZ s l).length = l.length + 1 := by
  simp [traceZ]
theorem traceZ_mem {s : List Int} {l : List Stp} (h : SzOk s) (hl : StepsOk s.length l) (h3 : s.length ≤ 3) : ∀ z ∈ traceZ s l, Sm z ∧ z.length ≤ 3 := by
  intro z hz
  simp only [traceZ, List.mem_map] at hz
  obtain ⟨i, _, rfl⟩ := hz
  refine ⟨(shownZ_ok h (hl.take i)).sm h, ?_⟩
  rw [shownZ_len]
  exact h3
section
variable {K : PySem.W.Frag} {H : Hp} {Q : VK} {E : XK} {n : Nat}
theorem ap_alikeZ {a b : Addr} {z : List Int} (h1 : SqT K H a (vI z)) (h2 : SqT K H b (vI z)) (hs : Sm z) (h3 : z.length ≤ 3) (hn : 1 < n) (k : ∀ H', Kp [] H H' → Q (.bl true) H') : spAlike K n [.ref a, .ref b] H Q E :=
  ap_alike (dInts z) (Td.vI h1).dp (Td.vI h2).dp (dInts_s z) (by rw [dInts_d]; exact hn) (by have := dInts_w hs; omega) k
theorem ap_alikeR {a b : Addr} {xs ys : List V} {zs : List (List Int)} (h1 : SqL K H a xs) (t1 : TdA K H xs (zs.map dInts)) (h2 : SqL K H b ys) (t2 : TdA K H ys (zs.map dInts)) (hs : ∀ z ∈ zs, Sm z ∧ z.length ≤ 3) (h3 : zs.length ≤ 300) (hn : 2 < n) (k : ∀ H', Kp [] H H' → Q (.bl true) H') : spAlike K n [.ref a, .ref b] H Q E :=
  ap_alike (dRows zs) (.lst h1 t1.dp) (.lst h2 t2.dp) (dRows_s zs) (by have := dRows_d zs; omega) (by have := dRows_w hs; omega) k
end
theorem vI_app (a b : List Int) : vI (a ++ b) = vI a ++ vI b := List.map_append
theorem atI_end {α : Type} {xs : List α} {n : Nat} (h : xs.length = n + 1) : atI xs (-1) = xs[n]? := by
  unfold atI
  have e : ixN xs.length (-1) = some n := by
    unfold ixN
    rw [if_neg (by decide), if_pos (by omega)]
    congr 1
    omega
  rw [e]
  rfl
def spLaw (K : PySem.W.Frag) : Sp := fun vs H Q _ => ∃ (a : Addr) (ns : List Int), vs = [.ref a] ∧ SqL K H a (vI ns) ∧ ns.length ≤ 63 ∧ ∀ H', Q (.bl true) H'
end WZ

/-! what the top has written, as the walks want it -/
namespace WZ
open PySem PySem.Spec PyProof.Rows L2 StX
section
variable {P : Program} {w : World} {K : PySem.W.Frag} {mg : Str → Option Value} {base : Heap} {f : Addr} {fd : FuncData} {h : Heap}
theorem fn_none {k : Nat} {ps : List Str} {sp : Sp} (no : ∀ vs H Q E, ¬ sp vs H Q E) : FnOk P w K mg base CX0 k f fd ps sp :=
  ⟨fun vs H Q E h => absurd h (no vs H Q E), fun A outer s H args us vs Q E _ _ _ _ h => absurd h (no vs H Q E)⟩
theorem cal_of {x q : Str} {st : Stmt} {k : Nat} {ps : List Str} {sp : Sp} (F : Fun K x q st f fd) (m : mg x = some (.ref f)) (b : Binds K fd ps []) (ok : FnOk P w K mg base CX0 k f fd ps sp) : Cal CX0 P w K mg base k x sp := ⟨f, fd, ps, ok, m, F.kp, b⟩
theorem kt_of {a : Addr} {its : Array Value} {n : Nat} {sl : Array (Option Value)} {od : Option Addr} {xs : List V} (l : K.lookup a = some ⟨.type "tuple", od, .seq its n, sl⟩) (hz : its.size ≤ 1000) (v : Vals xs its.toList) : KT K a xs :=
  fun H => .inr ⟨_, its, n, l, rfl, rfl, Nat.le_trans hz (by decide), v⟩
theorem kt_ints4 {a : Addr} {i1 i2 i3 i4 : Int} {t1 t2 t3 t4 n : Nat} {sl : Array (Option Value)} {od : Option Addr} (l : K.lookup a = some ⟨.type "tuple", od, .seq #[.int i1 t1, .int i2 t2, .int i3 t3, .int i4 t4] n, sl⟩) : KT K a [.int i1, .int i2, .int i3, .int i4] :=
  kt_of l (Nat.le_of_ble_eq_true rfl) (.cons ⟨_, rfl⟩ (.cons ⟨_, rfl⟩ (.cons ⟨_, rfl⟩ (.cons ⟨_, rfl⟩ .nil))))
theorem kt_strs3 {a : Addr} {i1 i2 i3 : Str} {t1 t2 t3 n : Nat} {sl : Array (Option Value)} {od : Option Addr} (l : K.lookup a = some ⟨.type "tuple", od, .seq #[.str i1 t1, .str i2 t2, .str i3 t3] n, sl⟩) : KT K a [.str i1, .str i2, .str i3] :=
  kt_of l (Nat.le_of_ble_eq_true rfl) (.cons ⟨_, rfl⟩ (.cons ⟨_, rfl⟩ (.cons ⟨_, rfl⟩ .nil)))
theorem gc_int (X : K.In h) (G : h.Ns mainGlobals mg) {x : Str} {i : Int} {t : Nat} (a : PySem.W.nsIn K mainGlobals x = some (some (.int i t))) : Gc mg x (.int i) := ⟨_, PySem.W.mg_of X G a, _, rfl⟩
theorem gc_ref (X : K.In h) (G : h.Ns mainGlobals mg) {x : Str} {i : Addr} (a : PySem.W.nsIn K mainGlobals x = some (some (.ref i))) : Gc mg x (.ref i) := ⟨_, PySem.W.mg_of X G a, rfl⟩
theorem taken_of {a : Addr} {n t1 t2 t3 u1 u2 u3 v1 v2 v3 : Nat} (l : K.lookup a = some ⟨.type "dict", none, .dict #[⟨PyData.keyHash w.params "on", .str "on" t1, .int 1 u1⟩, ⟨PyData.keyHash w.params "back", .str "back" t2, .int (-1) u2⟩, ⟨PyData.keyHash w.params "none", .str "none" t3, .int 0 u3⟩] n, #[]⟩)
    (n1 : PySem.W.nsIn K a "on" = some (some (.int 1 v1))) (n2 : PySem.W.nsIn K a "back" = some (some (.int (-1) v2))) (n3 : PySem.W.nsIn K a "none" = some (some (.int 0 v3))) : TakenT K w a := by
  have kl : PySem.W.KeysLit w.params (#[⟨PyData.keyHash w.params "on", .str "on" t1, .int 1 u1⟩, ⟨PyData.keyHash w.params "back", .str "back" t2, .int (-1) u2⟩, ⟨PyData.keyHash w.params "none", .str "none" t3, .int 0 u3⟩] : Array DictEntry).toList :=
    ⟨⟨_, _, rfl, rfl⟩, ⟨_, _, rfl, rfl⟩, ⟨_, _, rfl, rfl⟩, trivial⟩
  intro k
  cases k with
  | on => exact ⟨_, _, _, l, kl, n1, _, rfl⟩
  | back => exact ⟨_, _, _, l, kl, n2, _, rfl⟩
  | no => exact ⟨_, _, _, l, kl, n3, _, rfl⟩
theorem no_alike : ∀ vs H Q E, ¬ spAlike K 0 vs H Q E := fun vs H Q E h => by
  obtain ⟨_, _, _, _, _, _, _, h1, _⟩ := h
  omega
theorem no_move : ∀ vs H Q E, ¬ spMove K 0 vs H Q E := fun vs H Q E h => by
  obtain ⟨_, _, _, _, _, _, _, _, _, _, _, _, h1, h2, _⟩ := h
  omega
theorem no_do : ∀ vs H Q E, ¬ spDo K 0 vs H Q E := fun vs H Q E h => by
  obtain ⟨_, _, _, _, _, _, _, _, _, _, _, _, _, _, h1, _⟩ := h
  omega
theorem no_ran : ∀ vs H Q E, ¬ spRan K 0 vs H Q E := fun vs H Q E h => by
  obtain ⟨_, _, _, _, _, _, _, _, _, _, _, _, _, _, _, _, h1, _⟩ := h
  omega
end
theorem walk {x : Str} {l : PySem.W.OpenLaw} {q : Program} {loose : List Str} {XP : (Str → Option Value) → Heap → Prop} {YP : World → Heap → Prop} {d : DefRec} {K : Params → PySem.W.Frag} {k : Nat} (hn : l.most = some 63) (hdf : d.params.defaults = []) (hk : Room k callerA)
    (hY : ∀ (w : World) (h : Heap), YP w h → (K w.params).In h)
    (F : ∀ (w : World) (mg : Str → Option Value) (fa : Addr) (h : Heap), (K w.params).In h → h.Ns mainGlobals mg → mg d.name = some (.ref fa) →
      ∃ fd : FuncData, (∀ (s : Shared) (u : Value), BindsTo s fd ⟨[u], []⟩ [(x, u)]) ∧ ∀ base : Heap, (K w.params).In base → base.Ns mainGlobals mg → FnOk l.prog w (K w.params) mg base CX0 k fa fd [x] (spLaw (K w.params))) :
    PySem.W.WalkO q loose XP YP l.row.toRowW d [] (fun f vs => PySem.call f vs) :=
  L2.walk_of (n := 63) (k := k) (x := x) (CX := fun _ => CX0) (sp := fun w => spLaw (K w.params)) hn (by decide) hdf hk hY F (fun _ _ a ns hl _ hS => ⟨a, ns, rfl, hS, hl, fun _ => rfl⟩) fun _ _ _ _ _ z => z
end WZ

/-! a word of mine between two statements: what follows is shown once -/
namespace WZ
open PySem PySem.Spec PyProof.Rows L2 StX
def tCutW (t u : TS) : TS := fun D σ H => ∃ I : L2.St → Hp → Prop, t { D with nx := I } σ H ∧ ∀ σ' H', I σ' H' → u D σ' H'
theorem pss_cutW {X : Cx} {st : Stmt} {rest : List Stmt} {t u : TS} (h1 : PS X st t) (h2 : PSs X rest u) : PSs X (st :: rest) (tCutW t u) := by
  refine ⟨fun pins s σ H D I h => ?_⟩
  obtain ⟨W, hm, hu⟩ := h
  refine wpAny_execs_cons (thn (h1.run pins s σ H { D with nx := W } I hm) fun f s1 q => ?_)
  cases f with
  | next =>
    obtain ⟨σ', H', I', q⟩ := q
    exact h2.run pins s1 σ' H' D I' (hu σ' H' q)
  | ret v => exact q
  | brk => exact q
  | cont => exact q
theorem g_cutW {t u : TS} {D : Ends} {σ : L2.St} {H : Hp} (I : L2.St → Hp → Prop) (k1 : t { D with nx := I } σ H) (k2 : ∀ σ' H', I σ' H' → u D σ' H') : tCutW t u D σ H := ⟨I, k1, k2⟩
def xPar3 (F : V → V → V → Hp → Prop) : List V → Hp → Prop := fun vs H => ∃ u v w, vs = [u, v, w] ∧ F u v w H
theorem g_par3 {i j l : Nat} {tl : TA} {D : Ends} {σ : L2.St} {H : Hp} (k : tl σ H (xPar3 fun u v w H1 => D.nx (((σ.set i (some u)).set j (some v)).set l (some w)) H1)) : tPar3 i j l tl D σ H := k
theorem g_xPar3 {a b c : V} {H : Hp} {F : V → V → V → Hp → Prop} (k : F a b c H) : xPar3 F [a, b, c] H := ⟨a, b, c, rfl, k⟩
end WZ

/-! dict comprehensions whose keys are tuples -/
namespace WZ
open PySem PySem.Spec PyProof.Rows L2
/-- what stands behind D[y] = z, D a dict with tuple keys -/
def PutT (D : Addr) (y z : V) (H H' : Hp) : Prop := ∃ (kvs : List (List Key × V)) (k : List Key) (b : Addr), H D = some (.dT kvs) ∧ y = .ref b ∧ H b = some (.tup (k.map kV)) ∧ kvs.length < sizeLine ∧ H' = upd H D (.dT (putK kvs k z))
theorem putT_run {X : Cx} {pins : List (Addr × Obj)} {σ : L2.St} {H H' : Hp} {s : Shared} {E : Value → Shared → Prop} {D : Addr} {y z : V} {u r : Value} {Q : Unit → Shared → Prop} (hu : X.A.units < cLine) (I : Inv X pins σ H s) (g : PutT D y z H H') (ry : RelV y u) (rz : RelV z r)
    (h : ∀ s', Inv X pins σ H' s' → Q () s') : wpAny (model X.prog X.w) X.A (dictSet D u r) Q E s := by
  obtain ⟨kvs, k, b, eD, rfl, eb, hl, rfl⟩ := g
  obtain rfl : u = Value.ref b := ry
  obtain ⟨z1, hd, xs, rel, dd⟩ := dt_of I.hok eD
  have hz : xs.length ≤ sizeLine := (Paired.length rel) ▸ z1
  have hl2 : (putK kvs k z).length ≤ sizeLine := Nat.le_trans (length_putK kvs k z) (by omega)
  refine wpAny_dictSet_heap (hsz := hz) (knd := tupleKind (mixKind X.prog X.w)) ?_ (key_of I.hok eb) dd fun h' d2 hs => h _ ?_
  · exact hu
  obtain ⟨q, es, ep, hq, q2, q3, q4, _, q5⟩ := d2
  refine d_write I (by rw [eD]; exact True.intro) hs ⟨q, hq⟩ ⟨hl2, hd, _, KT.keeps (rel.put k eb rz) fun c ys ec => ?_, q, es, ep, hq, q2, q3, q4, q5⟩
  rw [upd_ne (ne_of ec eD fun e => nomatch e)]
  exact ec
def xTurnT (tt : TT) (tk tv : TE) (vs : List Nat) (σ : L2.St) (D : Addr) (N : Hp → Prop) : L2.St → Hp → Prop := fun σ2 H2 => wipe σ2 vs = wipe σ vs ∧ tt σ2 H2 fun b H3 => if b = true then tk σ2 H3 fun y H4 => tv σ2 H4 fun z H5 => ∃ H6, PutT D y z H5 H6 ∧ N H6 else N H3
def tDcT (wi : TI) (g : TG) (tt : TT) (tk tv : TE) (vs : List Nat) : TE := fun σ H Q => wi σ H fun J H1 => ∀ D, H1 D = none → ∃ W : Nat → Nat → Hp → Prop, (∃ m, W 0 m (upd H1 D (.dT []))) ∧
  ∀ i m H, W i m H → (J.stop i H ∧ Q (.ref D) H) ∨ (J.go i H ∧ ∃ N : Hp → Prop, (∀ H', N H' → ∃ m', m' < m ∧ W (i + 1) m' H') ∧ ∀ x H', J.yld i H x H' → g x (wipe σ vs) H' (xTurnT tt tk tv vs σ D N))
/-- where the block's things stand: nobody looks -/
theorem fp_of {X : Cx} {s0 : Shared} {H0 : Hp} {scope : Scope} {ce : Env} {fp : List Addr} {σ' : L2.St} {H' : Hp} {s' : Shared} (I' : Inv (X.blk s0 H0 scope ce fp) [] σ' H' s') (hn : ∀ b ∈ fp, H' b = none) : ∀ b ∈ fp, FpOk (X.blk s0 H0 scope ce fp) [] H' b := by
  intro b hb
  refine ⟨hn b hb, (I'.ok.exf b hb).1, I'.ok.exfs b hb, .inl hb, fun x c e => (I'.ok.exf b hb).2 x c e, fun p hp => ?_⟩
  exact absurd (show p ∈ ([] : List (Addr × Obj)) ++ [] from hp) (by simp)
theorem dcT_run {X : Cx} {pins : List (Addr × Obj)} {s : Shared} {σ : L2.St} {H : Hp} {Q : VK} {kx vx tg iter : Expr} {ifs : List Expr} {scope : Scope} {own : List (Str × Nat)} {pos pos' : Pos} {wi : TI} {g : TG} {tt : TT} {tk tv : TE} {use : Option (Value → Sem Unit)} {Qf : Value → Shared → Prop}
    (hu : X.A.units < cLine) (hc : X.calm = true) (hN : X.N.Nodup) (I : Inv X pins σ H s) (hi : PI X tg iter wi) (ok : BlkOk X.N X.env.scope scope own)
    (pg : ∀ s H C cl fp, PG (X.blk s H scope (compEnvC scope cl C X.env) fp) tg g) (pt : ∀ s H C cl fp, PTs (X.blk s H scope (compEnvC scope cl C X.env) fp) ifs tt)
    (pk : ∀ s H C cl fp, PE (X.blk s H scope (compEnvC scope cl C X.env) fp) kx tk) (pv : ∀ s H C cl fp, PE (X.blk s H scope (compEnvC scope cl C X.env) fp) vx tv) (hs : ∀ x, foldedSetIterable iter X.env x = pure x)
    (h : tDcT wi g tt tk tv (own.map (·.2)) σ H Q)
    (fin : ∀ D C s' m H', Inv X pins σ H' s' → Q (.ref D) H' → s'.heap.Ns C m → FpOk X pins H' C → compPost (model X.prog X.w) X.A X.xe use Qf (.ref D) C (.ok .next) s') :
    wpAny (model X.prog X.w) X.A (comprehension (.DictComp kx vx [⟨tg, iter, ifs, 0⟩] scope pos) scope X.env pos' newDict false (eval iter X.env) use) Qf X.xe s := by
  have free : ∀ y ∈ scope.names, y.2 = .free → ∃ c, X.env.cells.lookup y.1 = some c := by
    intro y hy e
    rcases ok.free y hy e with k | k
    · exact I.ok.has _ (Or.inl k)
    · exact I.ok.has _ (Or.inr k)
  refine wpAny_comprehension_free (use := use) rfl hs (closure_ok free) ok.kind (fun y hy e => by rw [ok.uniq y hy, e]) (thn (hi.run pins s σ H _ I h) fun _ s1 hx => thn hx fun _ s2 h2 => ?_)
  obtain ⟨it, fp, tn, J, H2, rfl, I2, T, st2, f2, q⟩ := h2
  refine wpAny_newObj_type (newEnv_comp ?_)
  obtain ⟨D, hD⟩ : ∃ D, s2.heap.objs.size = D := ⟨_, rfl⟩
  rw [hD]
  obtain ⟨W, ⟨m0, w0⟩, turn⟩ := q D (I2.hok.fresh (Nat.le_of_eq hD))
  obtain ⟨s3, e3⟩ : ∃ s3 : Shared, { s2 with heap := s2.heap.push { cls := .type "dict", data := .dict #[] } } = s3 := ⟨_, rfl⟩
  rw [e3]
  have h3 : s3.heap = s2.heap.push { cls := .type "dict", data := .dict #[] } := by rw [← e3]
  have I3 : Inv X pins σ (upd H2 D (.dT [])) s3 := by
    subst e3
    refine I2.laid (t' := s2.toks) (fun b o e => Heap.get?_push_of_some _ e) (Nat.le_of_eq hD) ?_
    subst hD
    exact dt_empty s2.heap I2.big
  have small : ∀ b ∈ fp, b < s2.heap.objs.size := by
    intro b hb
    obtain ⟨o, e, _⟩ := T.obj _ _ st2 b hb
    exact Heap.lt_size e
  have f3 : ∀ b ∈ fp, FpOk X pins (upd H2 D (.dT [])) b ∧ b < s3.heap.objs.size := by
    intro b hb
    have lt := small b hb
    have ne : b ≠ D := hD ▸ Nat.ne_of_lt lt
    refine ⟨⟨?_, (f2 b hb).2⟩, ?_⟩
    · rw [upd_ne ne]
      exact (f2 b hb).1
    · rw [h3, Heap.size_push]
      exact Nat.lt_succ_of_lt lt
  have st3 : tn 0 s3.heap := T.keep _ _ _ st2 fun b _ o e => h3 ▸ Heap.get?_push_of_some _ e
  have I4 := block_start I3 ok hN f3
  obtain ⟨H3, eH3⟩ : ∃ H3, upd H2 D (.dT []) = H3 := ⟨_, rfl⟩
  rw [eH3] at I3 I4 w0 f3
  have nfp : ∀ b ∈ fp, H3 b = none := fun b hb => (f3 b hb).1.1
  have g1 := pg s3 H3 s3.heap.objs.size (cellsFrom (s3.heap.objs.size + 1) scope.names (cloFrom X.env.cells scope.names [])) fp
  have t1 := pt s3 H3 s3.heap.objs.size (cellsFrom (s3.heap.objs.size + 1) scope.names (cloFrom X.env.cells scope.names [])) fp
  have k1 := pk s3 H3 s3.heap.objs.size (cellsFrom (s3.heap.objs.size + 1) scope.names (cloFrom X.env.cells scope.names [])) fp
  have v1 := pv s3 H3 s3.heap.objs.size (cellsFrom (s3.heap.objs.size + 1) scope.names (cloFrom X.env.cells scope.names [])) fp
  obtain ⟨ce, hce⟩ : ∃ ce, compEnvC scope (cellsFrom (s3.heap.objs.size + 1) scope.names (cloFrom X.env.cells scope.names [])) s3.heap.objs.size X.env = ce := ⟨_, rfl⟩
  show codeAny _ _ (.compStart _ 0 (.ref it) (.ref D) (compEnvC scope (cellsFrom (s3.heap.objs.size + 1) scope.names (cloFrom X.env.cells scope.names [])) s3.heap.objs.size X.env)) _ { s3 with heap := pushCells (s3.heap.push { cls := .type "dict", data := .dict #[] }) scope.names }
  rw [hce] at I4 g1 t1 k1 v1 ⊢
  have cL : ce.locals = s3.heap.objs.size := by rw [← hce]; rfl
  obtain ⟨s4, e4⟩ : ∃ s4 : Shared, { s3 with heap := pushCells (s3.heap.push { cls := .type "dict", data := .dict #[] }) scope.names } = s4 := ⟨_, rfl⟩
  rw [e4] at I4 ⊢
  have st4 : tn 0 s4.heap := T.keep _ _ _ st3 fun b _ o e => e4 ▸ pushCells_keeps _ _ _ _ (Heap.get?_push_of_some _ e)
  have loop : codeAny (model X.prog X.w) X.A (.compLoop (.DictComp kx vx [⟨tg, iter, ifs, 0⟩] scope pos) 0 (.ref it) (.ref D) ce) (compPost (model X.prog X.w) X.A X.xe use Qf (.ref D) s3.heap.objs.size) s4 := by
    refine compLoop_anyD (fun n s' => ∃ i H', Inv (X.blk s3 H3 scope ce fp) [] (wipe σ (own.map (·.2))) H' s' ∧ tn i s'.heap ∧ (∀ b ∈ fp, H' b = none) ∧ W i n H') ?_ m0 ⟨0, H3, I4, st4, nfp, w0⟩
    rintro n s5 ⟨i, H5, I5, st5, n5, w5⟩
    rcases turn i n H5 w5 with ⟨stop, qq⟩ | ⟨go, N, hNx, step⟩
    · refine thnF (T.done (X.blk s3 H3 scope ce fp) rfl rfl rfl hc i [] s5 _ H5 (fun _ _ => False) I5 (fp_of I5 n5) st5 stop) fun r s6 ⟨hr, I6⟩ => ?_
      subst hr
      have I7 : Inv X pins σ H5 s6 := I3.call' (ch := fp) I6.os I6.base I6.hok I6.bare fun b hb => by
        obtain ⟨⟨_, z1, _, z3, z4, z5⟩, _⟩ := f3 b hb
        exact ⟨z3, z1, z4, z5⟩
      have nC : H5 s3.heap.objs.size = none := by
        have z : H5 ce.locals = none := I6.free
        rwa [cL] at z
      obtain ⟨m, hn, _⟩ := I6.loc
      have hn' : s6.heap.Ns ce.locals m := hn
      rw [cL] at hn'
      exact fin D s3.heap.objs.size s6 m H5 I7 qq hn' (I3.fpOk (Nat.le_refl _) nC)
    · refine thnF (T.item (X.blk s3 H3 scope ce fp) rfl rfl rfl hc i [] s5 _ H5 (fun _ _ => False) I5 (fp_of I5 n5) st5 go) fun r s6 ⟨u, hr, h6⟩ => ?_
      subst hr
      refine thnF h6 fun _ s7 ⟨x, H7, I7, r7, y7, st7, n7⟩ => ?_
      have I8 := I7.pinned (fp_of I7 n7) (T.obj _ _ st7)
      refine thnF (g1.run _ s7 _ H7 x u _ I8 r7 (step x H7 y7)) fun _ s8 ⟨σ8, H8, I9, hw, q8⟩ => thnF (t1.run _ s8 σ8 H8 _ I9 q8) fun b s9 ⟨H9, I10, q9⟩ => ?_
      have close : ∀ {s' : Shared} {H' : Hp}, Inv (X.blk s3 H3 scope ce fp) ([] ++ pinsAt fp s7.heap) σ8 H' s' → N H' → ∃ m, m < n ∧ ∃ i H', Inv (X.blk s3 H3 scope ce fp) [] (wipe σ (own.map (·.2))) H' s' ∧ tn i s'.heap ∧ (∀ b ∈ fp, H' b = none) ∧ W i m H' := by
        intro s' H' I' nx
        obtain ⟨m', hm, w'⟩ := hNx H' nx
        have pin : ∀ b ∈ fp, ∀ o, s7.heap.get? b = some o → s'.heap.get? b = some o ∧ H' b = none := by
          intro b hb o e
          have z := I'.pin (b, o) (List.mem_append_right _ (List.mem_append_right _ (mem_pinsAt hb e)))
          exact ⟨z.1, z.2.1⟩
        refine ⟨m', hm, i + 1, H', I'.unpinned (pins := []) |>.weak ?_ ?_, T.keep _ _ _ st7 fun b hb o e => (pin b hb o e).1, ?_, w'⟩
        · rw [← hw, wipe_length]
        · intro j v e
          rw [← hw] at e
          exact (wipe_some e).1
        · intro b hb
          obtain ⟨o, e, _⟩ := T.obj _ _ st7 b hb
          exact (pin b hb o e).2
      cases b with
      | false =>
        simp only [Bool.false_eq_true, if_false] at q9 ⊢
        exact close I10 q9
      | true =>
        simp only [if_true] at q9 ⊢
        refine thnF (k1.run _ s9 σ8 H9 _ I10 q9) fun y1 s10 ⟨yk, H10, I11, r11, q11⟩ => thnF (v1.run _ s10 σ8 H10 _ I11 q11) fun y2 s11 ⟨yv, H11, I12, r12, H12, hp, nx⟩ => ?_
        exact putT_run (X := X.blk s3 H3 scope ce fp) hu I12 hp r11 r12 fun s12 I13 => close I13 nx
  exact codeAny_compStart_dict loop (T.self X.A 0 _ _ _ st4 loop)
theorem pe_dcT {X : Cx} {j : Nat} {kx vx tg iter : Expr} {ifs : List Expr} {scope : Scope} {own : List (Str × Nat)} {pos : Pos} {wi : TI} {g : TG} {tt : TT} {tk tv : TE} (hr : Room j X.A) (hc : X.calm = true) (hN : X.N.Nodup) (hi : PI X tg iter wi) (ok : BlkOk X.N X.env.scope scope own)
    (pg : ∀ s H C cl fp, PG (X.blk s H scope (compEnvC scope cl C X.env) fp) tg g) (pt : ∀ s H C cl fp, PTs (X.blk s H scope (compEnvC scope cl C X.env) fp) ifs tt)
    (pk : ∀ s H C cl fp, PE (X.blk s H scope (compEnvC scope cl C X.env) fp) kx tk) (pv : ∀ s H C cl fp, PE (X.blk s H scope (compEnvC scope cl C X.env) fp) vx tv) (hs : ∀ x, foldedSetIterable iter X.env x = pure x := by intro _; rfl) :
    PE X (.DictComp kx vx [⟨tg, iter, ifs, 0⟩] scope pos) (tDcT wi g tt tk tv (own.map (·.2))) := by
  have hu : X.A.units < cLine := Nat.lt_of_succ_lt (hu_of hr)
  refine ⟨fun pins s σ H Q I h => ?_⟩
  rw [arm_eval_DictComp]
  refine dcT_run hu hc hN I hi ok pg pt pk pv hs h fun D C s' m H' I' q hn ⟨f0, f1, f2, f3, f4, f5⟩ => ⟨m, hn, fun h'' sb => ⟨.ref D, H', ?_, rfl, q⟩⟩
  exact I'.turned (t' := s'.toks) (fun b o hb e => (sb.2 b hb).trans e) f0 f1 f3 f4 f5
/-- it is stored by the comprehension itself -/
theorem swD {kx vx : Expr} {gs : List Comprehension} {scope : Scope} {pos py : Pos} {y : Str} {l : Nat} {env : Env} (h1 : env.scope.kind = .function) (h2 : env.scope.names.lookup y = some .local) (h3 : (py.line == pos.line) = true) (h4 : (scope.names.any fun p => p.1 == y && (p.2 == .local || p.2 == .cell)) = false) :
    swapsWith (.DictComp kx vx gs scope pos) (some (.Name y py)) l env = pure true := by
  have e1 : env.kindOf y = some .local := h2
  have e2 : env.blockKind = .function := by
    unfold Env.blockKind
    rw [h1]
    rfl
  simp only [swapsWith, e2, e1, h4, Expr.pos, h3]
  rfl
theorem ps_setDcT {X : Cx} {j i : Nat} {y : Str} {py : Pos} {kx vx tg iter : Expr} {ifs : List Expr} {scope : Scope} {own : List (Str × Nat)} {pos spos : Pos} {wi : TI} {g : TG} {tt : TT} {tk tv : TE} (hr : Room j X.A) (hc : X.calm = true) (hN : X.N.Nodup) (hy : X.N[i]? = some y) (hyl : X.env.scope.names.lookup y = some .local)
    (hsw : swapsWith (.DictComp kx vx [⟨tg, iter, ifs, 0⟩] scope pos) (some (.Name y py)) spos.line X.env = pure true) (hi : PI X tg iter wi) (ok : BlkOk X.N X.env.scope scope own)
    (pg : ∀ s H C cl fp, PG (X.blk s H scope (compEnvC scope cl C X.env) fp) tg g) (pt : ∀ s H C cl fp, PTs (X.blk s H scope (compEnvC scope cl C X.env) fp) ifs tt)
    (pk : ∀ s H C cl fp, PE (X.blk s H scope (compEnvC scope cl C X.env) fp) kx tk) (pv : ∀ s H C cl fp, PE (X.blk s H scope (compEnvC scope cl C X.env) fp) vx tv) (hs : ∀ x, foldedSetIterable iter X.env x = pure x := by intro _; rfl) :
    PS X (.Assign [.Name y py] (.DictComp kx vx [⟨tg, iter, ifs, 0⟩] scope pos) spos) (tAsg (tDcT wi g tt tk tv (own.map (·.2))) (gName i)) := by
  have hu : X.A.units < cLine := Nat.lt_of_succ_lt (hu_of hr)
  refine ⟨fun pins s σ H D I h => ?_⟩
  rw [exec_Assign_Name_used _ _ _ _ hsw]
  refine wpAny_bind (wpAny_standAt (wpAny_bind ?_))
  have h : tDcT wi g tt tk tv (own.map (·.2)) σ H (fun x H1 => gName i x σ H1 D.nx) := h
  show wpAny _ X.A (comprehension (.DictComp kx vx [⟨tg, iter, ifs, 0⟩] scope pos) scope X.env (firstIterPos [⟨tg, iter, ifs, 0⟩] pos) newDict false (eval iter X.env) (some (assign (.Name y py) X.env)) >>= fun _ => _) _ _ s
  refine wpAny_bind (thn (dcT_run (Qf := fun _ s' => SP X pins D .next s') hu hc hN I hi ok pg pt pk pv hs h fun L C s' m H' I' q hn ⟨f0, f1, f2, f3, f4, f5⟩ => ?_) fun _ s' hq => wpAny_pure (wpAny_pure hq))
  show wpAny _ _ (assign (.Name y py) X.env (.ref L)) _ _ _
  refine wpAny_assign_Name (store_ok2 (v := V.ref L) I' hN hy (.inl hyl) rfl (fun s2 I2 ⟨a, sb, ha⟩ => ?_) (.inr hyl))
  have ne : C ≠ a := by
    rcases ha with z | z
    · exact z ▸ f1
    · exact fun e => f4 y a z e.symm
  exact ⟨m, hn.sameBut sb ne, fun h3 sb3 => ⟨_, H', I2.turned (t' := s2.toks) (fun b o hb e => (sb3.2 b hb).trans e) f0 f1 f3 f4 f5, q⟩⟩
/-! readings -/
def accT (D : Addr) (N : List (List Key × V) → Hp → Prop) : Hp → Prop := fun H' => ∃ kvs, H' D = some (.dT kvs) ∧ N kvs H'
def xPutT (D : Addr) (y : V) (N : Hp → Prop) : VK := fun z H5 => ∃ H6, PutT D y z H5 H6 ∧ N H6
def xKeyT (tv : TE) (σ2 : L2.St) (D : Addr) (N : Hp → Prop) : VK := fun y H4 => tv σ2 H4 (xPutT D y N)
def xDcT (g : TG) (tt : TT) (tk tv : TE) (vs : List Nat) (σ : L2.St) (Q : VK) : It → Hp → Prop := fun J H1 => ∀ D, H1 D = none → ∃ W : Nat → Nat → Hp → Prop, (∃ m, W 0 m (upd H1 D (.dT []))) ∧
  ∀ i m H, W i m H → (J.stop i H ∧ Q (.ref D) H) ∨ (J.go i H ∧ ∃ N : Hp → Prop, (∀ H', N H' → ∃ m', m' < m ∧ W (i + 1) m' H') ∧ ∀ x H', J.yld i H x H' → g x (wipe σ vs) H' (xTurnT tt tk tv vs σ D N))
theorem Kp.writeT {H : Hp} {l : Addr} {xs ys : List (List Key × V)} (h : H l = some (.dT xs)) : Kp [l] H (upd H l (.dT ys)) := by
  have f : ∀ b u, H b = some u → b ≠ l → upd H l (.dT ys) b = some u := fun b u q n => by
    rw [upd_ne n]
    exact q
  refine ⟨fun b u q n => f b u q (by simpa using n), fun b xs q => f b _ q (ne_of q h (by intro z; cases z)), fun b o u q => f b _ q (ne_of q h (by intro z; cases z)), fun b u q => ?_⟩
  by_cases e : b = l
  · subst e
    exact ⟨_, upd_same⟩
  · exact ⟨u, f b u q e⟩
def kI (ns : List Int) : List Key := ns.map Sum.inl
theorem kI_V (ns : List Int) : (kI ns).map kV = vI ns := by
  unfold kI vI
  rw [List.map_map]
  rfl
theorem kI_inj {a b : List Int} (h : kI a = kI b) : a = b := (List.map_inj_right (fun _ _ e => Sum.inl.inj e)).mp h
section
variable {K : PySem.W.Frag} {σ σ2 : L2.St} {H : Hp} {Q : VK} {tt : TT} {tk tv : TE} {wi : TI} {g : TG} {vs : List Nat} {D b : Addr} {N : Hp → Prop}
theorem g_dcT (k : wi σ H (xDcT g tt tk tv vs σ Q)) : tDcT wi g tt tk tv vs σ H Q := k
theorem g_xTurnT (h : wipe σ2 vs = wipe σ vs) (k : tt σ2 H (cIf (fun H3 => tk σ2 H3 (xKeyT tv σ2 D N)) N)) : xTurnT tt tk tv vs σ D N σ2 H := ⟨h, k⟩
theorem g_xKeyT {y : V} (k : tv σ2 H (xPutT D y N)) : xKeyT tv σ2 D N y H := k
theorem g_xPutT {kvs : List (List Key × V)} {ks : List Int} {z : V} {N : List (List Key × V) → Hp → Prop} (h : H D = some (.dT kvs)) (hb : H b = some (.tup (vI ks))) (hz : kvs.length ≤ 1000000) (k : ∀ H6, Kp [D] H H6 → H6 D = some (.dT (putK kvs (kI ks) z)) → N (putK kvs (kI ks) z) H6) : xPutT D (.ref b) (accT D N) z H :=
  ⟨_, ⟨kvs, kI ks, b, h, rfl, by rw [kI_V]; exact hb, lt_line hz, rfl⟩, _, upd_same, k _ (Kp.writeT h) upd_same⟩
theorem g_accT {kvs : List (List Key × V)} {N : List (List Key × V) → Hp → Prop} (h : H D = some (.dT kvs)) (k : N kvs H) : accT D N H := ⟨kvs, h, k⟩
theorem g_dcTL {a : Addr} {xs : List V} (G : Addr → Nat → List (List Key × V) → Hp → Prop) (h0 : ∀ D H1, H D = none → Kp [] H H1 → G D 0 [] H1) (hl : ∀ D i acc H', i ≤ xs.length → G D i acc H' → SqL K H' a xs)
    (hs : ∀ D i x acc H', H D = none → xs[i]? = some x → H' D = some (.dT acc) → G D i acc H' → g x (wipe σ vs) H' (xTurnT tt tk tv vs σ D (accT D (G D (i + 1)))))
    (hd : ∀ D acc H', H D = none → H' D = some (.dT acc) → G D xs.length acc H' → Q (.ref D) H') : xDcT g tt tk tv vs σ Q (Itl K a) H := by
  intro D hD
  refine ⟨fun i m H => m = xs.length - i ∧ i ≤ xs.length ∧ accT D (G D i) H, ⟨xs.length, by simp, Nat.zero_le _, [], upd_same, h0 D _ hD (Kp.new hD)⟩, ?_⟩
  rintro i m H ⟨rfl, hi, acc, e, p⟩
  have q := hl D i acc H hi p
  by_cases hlt : i < xs.length
  · refine .inr ⟨⟨xs, xs[i], q, by simp [hlt]⟩, accT D (G D (i + 1)), fun H' p' => ⟨xs.length - (i + 1), by omega, rfl, hlt, p'⟩, fun x H' ⟨e', y⟩ => ?_⟩
    subst e'
    exact hs D i x acc _ hD (y xs q) e p
  · obtain rfl : i = xs.length := by omega
    exact .inl ⟨⟨xs, q, Nat.le_refl _⟩, hd D acc H hD e p⟩
theorem g_dcTT {a : Addr} {xs : List V} (G : Addr → Nat → List (List Key × V) → Hp → Prop) (h0 : ∀ D H1, H D = none → Kp [] H H1 → G D 0 [] H1) (hl : ∀ D i acc H', i ≤ xs.length → G D i acc H' → SqT K H' a xs)
    (hs : ∀ D i x acc H', H D = none → xs[i]? = some x → H' D = some (.dT acc) → G D i acc H' → g x (wipe σ vs) H' (xTurnT tt tk tv vs σ D (accT D (G D (i + 1)))))
    (hd : ∀ D acc H', H D = none → H' D = some (.dT acc) → G D xs.length acc H' → Q (.ref D) H') : xDcT g tt tk tv vs σ Q (Itt K a) H := by
  intro D hD
  refine ⟨fun i m H => m = xs.length - i ∧ i ≤ xs.length ∧ accT D (G D i) H, ⟨xs.length, by simp, Nat.zero_le _, [], upd_same, h0 D _ hD (Kp.new hD)⟩, ?_⟩
  rintro i m H ⟨rfl, hi, acc, e, p⟩
  have q := hl D i acc H hi p
  by_cases hlt : i < xs.length
  · refine .inr ⟨⟨xs, xs[i], q, by simp [hlt]⟩, accT D (G D (i + 1)), fun H' p' => ⟨xs.length - (i + 1), by omega, rfl, hlt, p'⟩, fun x H' ⟨e', y⟩ => ?_⟩
    subst e'
    exact hs D i x acc _ hD (y xs q) e p
  · obtain rfl : i = xs.length := by omega
    exact .inl ⟨⟨xs, q, Nat.le_refl _⟩, hd D acc H hD e p⟩
end
/-! len of such dicts; set(tuples of ints), and its len -/
theorem g_lenDT {H : Hp} {Q : VK} {p : Addr} {kvs : List (List Key × V)} (h : H p = some (.dT kvs)) (k : Q (.int ((kvs.length : Nat) : Int)) H) : rLenT [V.ref p] H Q := ⟨p, kvs, rfl, h, k⟩
theorem fn_or {P : Program} {w : World} {K : PySem.W.Frag} {mg : Str → Option Value} {base : Heap} {f : Addr} {fd : FuncData} {CX : CXT} {k : Nat} {ps : List Str} {sp1 sp2 : Sp} (F1 : FnOk P w K mg base CX k f fd ps sp1) (F2 : FnOk P w K mg base CX k f fd ps sp2) :
    FnOk P w K mg base CX k f fd ps fun vs H Q E => sp1 vs H Q E ∨ sp2 vs H Q E :=
  ⟨fun vs H Q E h => h.elim (F1.len vs H Q E) (F2.len vs H Q E), fun A outer s H args us vs Q E hr he hb hv h => h.elim (F1.run A outer s H args us vs Q E hr he hb hv) (F2.run A outer s H args us vs Q E hr he hb hv)⟩
theorem sub_len : ∀ {a b : List (List Int)}, a.Nodup → (∀ x ∈ a, x ∈ b) → a.length ≤ b.length
  | [], _, _, _ => Nat.zero_le _
  | x :: r, b, hn, h => by
    obtain ⟨h1, h2⟩ := List.nodup_cons.mp hn
    obtain ⟨u, v, rfl⟩ := List.append_of_mem (h x List.mem_cons_self)
    have q := sub_len (a := r) (b := u ++ v) h2 fun y hy => by
      have := h y (List.mem_cons_of_mem _ hy)
      rcases List.mem_append.mp this with z | z
      · exact List.mem_append_left _ z
      · rcases List.mem_cons.mp z with e | z
        · exact absurd (e ▸ hy) h1
        · exact List.mem_append_right _ z
    simp only [List.length_cons, List.length_append] at q ⊢
    omega
end WZ

/-! dicts with tuple keys, looks through lists of tuples, zip of tuples: readings -/
namespace WZ
open PySem PySem.Spec PyProof.Rows L2 StX
theorem room65 {X : Cx} {j : Nat} (hr : Room j X.A) : X.A.units + 65 < cLine := by
  have := hr.un
  omega
theorem op_notInDK {X : Cx} {K : PySem.W.Frag} {j : Nat} (hr : Room j X.A) (h : X.K = K := by rfl) : OpR X (compareOp .NotIn) (rNotInD K) := h ▸ op_notInD (room65 hr)
theorem op_inDK {X : Cx} {K : PySem.W.Frag} {j : Nat} (hr : Room j X.A) (h : X.K = K := by rfl) : OpR X (compareOp .In) (rInD K) := h ▸ op_inD (room65 hr)
theorem mt_indexDK {X : Cx} {K : PySem.W.Frag} {j : Nat} (hr : Room j X.A) (h : X.K = K := by rfl) : MtR X "list.index" (rIndexD K) := h ▸ mt_indexD (room65 hr)
/-! tuples of ints are alike where the ints are -/
theorem eqvAll_ints : ∀ a b : List Int, PyData.eqvAll (a.map PyData.int) (b.map PyData.int) = decide (a = b)
  | [], [] => rfl
  | [], _ :: _ => rfl
  | _ :: _, [] => rfl
  | x :: a, y :: b => by
    simp only [List.map_cons, PyData.eqvAll, PyData.eqv, eqvAll_ints a b]
    rw [Bool.eq_iff_iff]
    simp
theorem eqv_dInts (a b : List Int) : PyData.eqv (dInts a) (dInts b) = decide (a = b) := eqvAll_ints a b
/-- a list's items are tuples of the heap's own, of these ints -/
inductive TrA (H : Hp) : List V → List (List Int) → Prop
  | nil : TrA H [] []
  | cons {a : Addr} {z : List Int} {ws : List V} {zs : List (List Int)} : H a = some (.tup (vI z)) → TrA H ws zs → TrA H (.ref a :: ws) (z :: zs)
section
variable {K : PySem.W.Frag} {M : List Addr} {H H' : Hp}
theorem TrA.mono (k : Kp M H H') : ∀ {ws : List V} {zs : List (List Int)}, TrA H ws zs → TrA H' ws zs
  | _, _, .nil => .nil
  | _, _, .cons e t => .cons (k.tups _ _ e) (TrA.mono k t)
theorem TrA.app : ∀ {ws us : List V} {zs ys : List (List Int)}, TrA H ws zs → TrA H us ys → TrA H (ws ++ us) (zs ++ ys)
  | _, _, _, _, .nil, s => s
  | _, _, _, _, .cons e t, s => .cons e (TrA.app t s)
theorem TrA.td : ∀ {ws : List V} {zs : List (List Int)}, TrA H ws zs → TdA K H ws (zs.map dInts)
  | _, _, .nil => .nil
  | _, _, .cons e t => .cons (Td.vI (SqT.of e)) (TrA.td t)
theorem TrA.length : ∀ {ws : List V} {zs : List (List Int)}, TrA H ws zs → ws.length = zs.length
  | _, _, .nil => rfl
  | _, _, .cons _ t => by simp [t.length]
theorem TrA.get : ∀ {ws : List V} {zs : List (List Int)} {i : Nat} {z : List Int}, TrA H ws zs → zs[i]? = some z → ∃ a, ws[i]? = some (.ref a) ∧ H a = some (.tup (vI z))
  | _, _, _, _, .nil, e => by simp at e
  | _, _, 0, _, .cons r _, e => by simp at e; subst e; exact ⟨_, rfl, r⟩
  | _, _, i + 1, z, .cons _ t, e => by
    obtain ⟨a, h1, h2⟩ := TrA.get (i := i) (z := z) t (by simpa using e)
    exact ⟨a, by simpa using h1, h2⟩
theorem Kp.trA (k : Kp M H H') {ws : List V} {zs : List (List Int)} (h : TrA H ws zs) : TrA H' ws zs := h.mono k
end
section
variable {K : PySem.W.Frag} {σ : L2.St} {H : Hp} {D : Ends} {Q : VK} {td ty tv tx : TE} {a b p : Addr}
def xDNI (td : TE) (σ : L2.St) (Q : VK) : VK := fun y H1 => td σ H1 fun x H2 => ∃ a o, x = .ref a ∧ DGet H2 a y o ∧ Q (.bl (!o.isSome)) H2
theorem g_dnotin (k : ty σ H (xDNI td σ Q)) : tDNotIn ty td σ H Q := k
def xDNI2 (y : V) (Q : VK) : VK := fun x H2 => ∃ a o, x = .ref a ∧ DGet H2 a y o ∧ Q (.bl (!o.isSome)) H2
theorem g_xDNI {y : V} (k : td σ H (xDNI2 y Q)) : xDNI td σ Q y H := k
theorem g_xDNI2 {kvs : List (List Key × V)} {ks : List Int} (h : H a = some (.dT kvs)) (hb : H b = some (.tup (vI ks))) (k : Q (.bl (!(valV kvs (kI ks)).isSome)) H) : xDNI2 (.ref b) Q (.ref a) H :=
  ⟨a, _, rfl, DGet.t h (by rw [kI_V]; exact hb), k⟩
def xDP (td ty : TE) (D : Ends) (σ : L2.St) : VK := fun v H1 => td σ H1 fun x H2 => ty σ H2 fun y H3 => ∃ a H4, x = .ref a ∧ DPut H3 a y v H4 ∧ D.nx σ H4
theorem g_dput (k : tv σ H (xDP td ty D σ)) : sDPut td ty tv D σ H := k
def xDP2 (ty : TE) (v : V) (D : Ends) (σ : L2.St) : VK := fun x H2 => ty σ H2 fun y H3 => ∃ a H4, x = .ref a ∧ DPut H3 a y v H4 ∧ D.nx σ H4
theorem g_xDP {v : V} (k : td σ H (xDP2 ty v D σ)) : xDP td ty D σ v H := k
def xDP3 (x v : V) (D : Ends) (σ : L2.St) : VK := fun y H3 => ∃ a H4, x = .ref a ∧ DPut H3 a y v H4 ∧ D.nx σ H4
theorem g_xDP2 {x v : V} (k : ty σ H (xDP3 x v D σ)) : xDP2 ty v D σ x H := k
theorem g_xDP3 {v : V} {kvs : List (List Key × V)} {ks : List Int} (h : H a = some (.dT kvs)) (hb : H b = some (.tup (vI ks))) (hz : kvs.length ≤ 1000000) (k : ∀ H4, Kp [a] H H4 → H4 a = some (.dT (putK kvs (kI ks) v)) → D.nx σ H4) : xDP3 (.ref a) v D σ (.ref b) H :=
  ⟨a, _, rfl, DPut.t h (by rw [kI_V]; exact hb) (lt_line hz), k _ (Kp.writeT h) upd_same⟩
def xDG (ty tx : TE) (σ : L2.St) (Q : VK) : VK := fun x H1 => ∃ a, x = .ref a ∧ IsD H1 a ∧ ty σ H1 fun y H2 => tx σ H2 fun z H3 => ∃ o, DGet H3 a y o ∧ Q (o.getD z) H3
theorem g_dget2 (k : td σ H (xDG ty tx σ Q)) : tDGet2 td ty tx σ H Q := k
def xDG2 (tx : TE) (a : Addr) (σ : L2.St) (Q : VK) : VK := fun y H2 => tx σ H2 fun z H3 => ∃ o, DGet H3 a y o ∧ Q (o.getD z) H3
theorem g_xDG {kvs : List (List Key × V)} (h : H a = some (.dT kvs)) (k : ty σ H (xDG2 tx a σ Q)) : xDG ty tx σ Q (.ref a) H := ⟨a, rfl, .inr ⟨kvs, .inl h⟩, k⟩
def xDG3 (a : Addr) (y : V) (Q : VK) : VK := fun z H3 => ∃ o, DGet H3 a y o ∧ Q (o.getD z) H3
theorem g_xDG2 {y : V} (k : tx σ H (xDG3 a y Q)) : xDG2 tx a σ Q y H := k
theorem g_xDG3 {z : V} {kvs : List (List Key × V)} {ks : List Int} (h : H a = some (.dT kvs)) (hb : H b = some (.tup (vI ks))) (k : Q ((valV kvs (kI ks)).getD z) H) : xDG3 a (.ref b) Q z H := ⟨_, DGet.t h (by rw [kI_V]; exact hb), k⟩
theorem g_dnewT (k : ∀ p H2, H p = none → Kp [] H H2 → H2 p = some (.dT []) → Q (.ref p) H2) : tDNewT σ H Q := fun p n => k p _ n (Kp.new n) upd_same
/-- x not in xs, x and the items tuples of ints -/
theorem g_notInZ {zs : List (List Int)} {z : List Int} {ws : List V} {x : V} (hx : Td K H x (dInts z)) (hs : SqL K H a ws) (ht : TdA K H ws (zs.map dInts)) (k : Q (.bl (!decide (z ∈ zs))) H) : rNotInD K x (.ref a) H Q := by
  refine ⟨dInts z, zs.map dInts, hx.dp, .lst hs ht.dp, dInts_s z, dRows_s zs, ?_⟩
  have e : ((zs.map dInts).any fun y => PyData.eqv y (dInts z)) = decide (z ∈ zs) := by
    rw [Bool.eq_iff_iff, List.any_eq_true, decide_eq_true_iff]
    constructor
    · rintro ⟨y, hy, h2⟩
      obtain ⟨u, hu, rfl⟩ := List.mem_map.mp hy
      rw [eqv_dInts] at h2
      exact of_decide_eq_true h2 ▸ hu
    · intro h
      exact ⟨dInts z, List.mem_map_of_mem h, by rw [eqv_dInts]; exact decide_eq_true rfl⟩
  rw [e]
  exact k
theorem g_indexZ {zs : List (List Int)} {z : List Int} {ws : List V} {x : V} {j : Nat} (hx : Td K H x (dInts z)) (hs : SqL K H a ws) (ht : TdA K H ws (zs.map dInts)) (hj : zs[j]? = some z) (hm : ∀ m, m < j → zs[m]? ≠ some z) (k : Q (.int (j : Int)) H) : rIndexD K (.ref a) [x] H Q := by
  refine ⟨a, x, dInts z, zs.map dInts, j, dInts z, rfl, rfl, .lst hs ht.dp, hx.dp, dRows_s zs, dInts_s z, by rw [List.getElem?_map, hj]; rfl, by rw [eqv_dInts]; exact decide_eq_true rfl, fun m z' hmj hz' => ?_, k⟩
  rw [List.getElem?_map] at hz'
  obtain ⟨u, h1, h2⟩ := Option.map_eq_some_iff.mp hz'
  subst h2
  rw [eqv_dInts]
  exact decide_eq_false fun e => hm m hmj (e ▸ h1)
end
/-! zip of two tuples in a comprehension -/
section
variable {K : PySem.W.Frag} {σ : L2.St} {H : Hp} {Q : VK} {te : TE} {tt : TT} {ti : TA} {g : TG} {R : It → Hp → Prop} {vs : List Nat}
def xZipA (K : PySem.W.Frag) (R : It → Hp → Prop) : List V → Hp → Prop := fun vs H1 => ∃ a b xs ys, vs = [.ref a, .ref b] ∧ ((SqL K H1 a xs ∧ SqL K H1 b ys ∧ R (Itz K a b) H1) ∨ (SqT K H1 a xs ∧ SqT K H1 b ys ∧ R (RZ.ItzT K a b) H1))
theorem g_iZipA (k : ti σ H (xZipA K R)) : RZ.iZipA K ti σ H R := k
theorem g_xZipT {a b : Addr} {xs ys : List V} (h1 : SqT K H a xs) (h2 : SqT K H b ys) (k : R (RZ.ItzT K a b) H) : xZipA K R [.ref a, .ref b] H := ⟨a, b, xs, ys, rfl, .inr ⟨h1, h2, k⟩⟩
theorem g_compZT {a b : Addr} {xs ys : List V} (hl : xs.length = ys.length) (G : Addr → Nat → List V → Hp → Prop) (h0 : ∀ D H1, H D = none → Kp [] H H1 → G D 0 [] H1) (hq : ∀ D i acc H', i ≤ xs.length → G D i acc H' → SqT K H' a xs ∧ SqT K H' b ys)
    (hs : ∀ D i x y acc H' T H'', H D = none → xs[i]? = some x → ys[i]? = some y → H' D = some (.lst acc) → G D i acc H' → H' T = none → Kp [] H' H'' → H'' T = some (.tup [x, y]) → g (.ref T) (wipe σ vs) H'' (xTurn tt te vs σ D (accP D (G D (i + 1)))))
    (hd : ∀ D acc H', H D = none → H' D = some (.lst acc) → G D xs.length acc H' → Q (.ref D) H') : xLc g tt te vs σ Q (RZ.ItzT K a b) H := by
  intro D hD
  refine ⟨fun i m H => m = xs.length - i ∧ i ≤ xs.length ∧ accP D (G D i) H, ⟨xs.length, by simp, Nat.zero_le _, [], upd_same, h0 D _ hD (Kp.new hD)⟩, ?_⟩
  rintro i m H ⟨rfl, hi, acc, e, p⟩
  obtain ⟨qx, qy⟩ := hq D i acc H hi p
  by_cases hlt : i < xs.length
  · have hlt2 : i < ys.length := hl ▸ hlt
    refine .inr ⟨⟨xs, ys, xs[i], ys[i], qx, qy, by simp [hlt], by simp [hlt2]⟩, accP D (G D (i + 1)), fun H' p' => ⟨xs.length - (i + 1), by omega, rfl, hlt, p'⟩, fun v H' hy => ?_⟩
    obtain ⟨T, x, y, rfl, nT, rfl, hx, hy⟩ := hy
    exact hs D i x y acc H T _ hD (hx xs qx) (hy ys qy) e p nT (Kp.new nT) upd_same
  · obtain rfl : i = xs.length := by omega
    exact .inl ⟨⟨xs, ys, qx, qy, .inl (Nat.le_refl _)⟩, hd D acc H hD e p⟩
end
end WZ

/-! rounds: the mathematics, the promises -/
namespace WZ
open PySem PySem.Spec PyProof.Rows L2 StX
def itZ (s : List Int) (l : List Stp) : Nat → List Int → List Int
  | 0, z => z
  | k + 1, z => runZ s (itZ s l k z) l
def orbL (s : List Int) (l : List Stp) (z : List Int) (m : Nat) : List (List Int) := (List.range m).map fun i => itZ s l i z
section
variable {s : List Int} {l : List Stp} {z : List Int}
theorem itZ_add (a b : Nat) : itZ s l (a + b) z = itZ s l b (itZ s l a z) := by
  induction b with
  | zero => rfl
  | succ b ih =>
    show runZ s (itZ s l (a + b) z) l = runZ s (itZ s l b (itZ s l a z)) l
    rw [ih]
theorem itZ_len (k : Nat) : (itZ s l k z).length = z.length := by
  induction k with
  | zero => rfl
  | succ k ih =>
    show (runZ s _ l).length = _
    rw [runZ_len, ih]
theorem itZ_ok (hs : ∀ x ∈ s, 2 ≤ x) (hl : StepsOk s.length l) (hz : OkZ z s) (k : Nat) : OkZ (itZ s l k z) s := by
  induction k with
  | zero => exact hz
  | succ k ih => exact runZ_ok hs ih hl
theorem orbL_succ (m : Nat) : orbL s l z (m + 1) = orbL s l z m ++ [itZ s l m z] := by
  unfold orbL
  rw [List.range_succ, List.map_append]
  rfl
theorem orbL_len (m : Nat) : (orbL s l z m).length = m := by simp [orbL]
theorem orbL_get {m i : Nat} (h : i < m) : (orbL s l z m)[i]? = some (itZ s l i z) := by
  unfold orbL
  rw [List.getElem?_map, List.getElem?_range h]
  rfl
theorem mem_orbL {m : Nat} {x : List Int} : x ∈ orbL s l z m ↔ ∃ i, i < m ∧ itZ s l i z = x := by
  simp [orbL, List.mem_map, List.mem_range]
/-- the first m ones differ -/
def Dist (s : List Int) (l : List Stp) (z : List Int) (m : Nat) : Prop := ∀ i j : Nat, i < j → j < m → itZ s l i z ≠ itZ s l j z
theorem Dist.nodup : ∀ {m : Nat}, Dist s l z m → (orbL s l z m).Nodup
  | 0, _ => List.nodup_nil
  | m + 1, h => by
    rw [orbL_succ]
    refine List.nodup_append.mpr ⟨Dist.nodup fun i j hij hj => h i j hij (by omega), by simp, fun a ha b hb e => ?_⟩
    rw [List.mem_singleton] at hb
    obtain ⟨i, hi, q⟩ := mem_orbL.mp ha
    exact h i m hi (by omega) (by rw [q, e, hb])
theorem Dist.next {m : Nat} (h : Dist s l z m) (hn : itZ s l m z ∉ orbL s l z m) : Dist s l z (m + 1) := fun i j hij hj e => by
  by_cases hm : j = m
  · subst hm
    exact hn (mem_orbL.mpr ⟨i, hij, e⟩)
  · exact h i j hij (by omega) e
end
/-! how many showings there are -/
def prodZ : List Int → Nat
  | [] => 1
  | x :: r => x.toNat * prodZ r
def allZ : List Int → List (List Int)
  | [] => [[]]
  | x :: r => (List.range x.toNat).flatMap fun (i : Nat) => (allZ r).map fun t => (i : Int) :: t
theorem len_flat {α β : Type} {f : α → List β} {c : Nat} : ∀ {xs : List α}, (∀ x ∈ xs, (f x).length = c) → (xs.flatMap f).length = xs.length * c
  | [], _ => by simp
  | x :: r, h => by
    rw [List.flatMap_cons, List.length_append, len_flat (xs := r) fun y hy => h y (List.mem_cons_of_mem _ hy), h x List.mem_cons_self, List.length_cons, Nat.add_mul, Nat.one_mul, Nat.add_comm]
theorem allZ_len : ∀ s : List Int, (allZ s).length = prodZ s
  | [] => rfl
  | x :: r => by
    show ((List.range x.toNat).flatMap _).length = x.toNat * prodZ r
    rw [len_flat (c := prodZ r) fun i _ => by rw [List.length_map, allZ_len r], List.length_range]
theorem allZ_mem : ∀ {z s : List Int}, OkZ z s → z ∈ allZ s
  | [], [], _ => List.mem_singleton.mpr rfl
  | x :: z, y :: s, h => by
    obtain ⟨h1, h2, h3⟩ := h
    refine List.mem_flatMap.mpr ⟨x.toNat, List.mem_range.mpr (by omega), List.mem_map.mpr ⟨z, allZ_mem h3, ?_⟩⟩
    rw [Int.toNat_of_nonneg h1]
  | [], _ :: _, h => h.elim
  | _ :: _, [], h => h.elim
theorem dist_le {s : List Int} {l : List Stp} {z : List Int} {m : Nat} (hs : ∀ x ∈ s, 2 ≤ x) (hl : StepsOk s.length l) (hz : OkZ z s) (h : Dist s l z m) : m ≤ prodZ s := by
  have := sub_len h.nodup (b := allZ s) fun x hx => by
    obtain ⟨i, _, rfl⟩ := mem_orbL.mp hx
    exact allZ_mem (itZ_ok hs hl hz i)
  rwa [orbL_len, allZ_len] at this
theorem prodZ_pos : ∀ {s : List Int}, (∀ x ∈ s, 2 ≤ x) → 1 ≤ prodZ s
  | [], _ => Nat.le_refl _
  | x :: r, h => by
    have h1 := prodZ_pos (s := r) fun y hy => h y (List.mem_cons_of_mem _ hy)
    have h2 := h x List.mem_cons_self
    exact Nat.mul_pos (by omega) h1
theorem le_prodZ : ∀ {s : List Int} {x : Int}, (∀ x ∈ s, 2 ≤ x) → x ∈ s → x ≤ prodZ s
  | y :: r, x, h, hx => by
    have h1 := prodZ_pos (s := r) fun y hy => h y (List.mem_cons_of_mem _ hy)
    have h2 := h y List.mem_cons_self
    show x ≤ ((y.toNat * prodZ r : Nat) : Int)
    rcases List.mem_cons.mp hx with e | e
    · subst e
      have := Nat.le_mul_of_pos_right x.toNat h1
      omega
    · have a := le_prodZ (s := r) (fun y hy => h y (List.mem_cons_of_mem _ hy)) e
      have := Nat.le_mul_of_pos_left (prodZ r) (show 0 < y.toNat by omega)
      omega
theorem prod_fold : ∀ {s : List Int} (a : Int), (∀ x ∈ s, 2 ≤ x) → s.foldl (fun a x => a * x) a = a * prodZ s
  | [], a, _ => by simp [prodZ]
  | x :: r, a, h => by
    have h2 := h x List.mem_cons_self
    show r.foldl _ (a * x) = _
    rw [prod_fold (a * x) fun y hy => h y (List.mem_cons_of_mem _ hy), Int.mul_assoc]
    congr 1
    show x * (prodZ r : Int) = ((x.toNat * prodZ r : Nat) : Int)
    rw [Int.natCast_mul, Int.toNat_of_nonneg (by omega)]
/-! what comes again -/
theorem again_at {s : List Int} {l : List Stp} {z : List Int} {j p : Nat} (e : itZ s l (j + p) z = itZ s l j z) (q r : Nat) : itZ s l (j + (q * p + r)) z = itZ s l (j + r) z := by
  induction q with
  | zero => simp
  | succ q ih =>
    have h1 : j + ((q + 1) * p + r) = (j + p) + (q * p + r) := by
      rw [Nat.succ_mul]
      omega
    rw [h1, itZ_add, e, ← itZ_add, ih]
theorem again_mod {s : List Int} {l : List Stp} {z : List Int} {j m t : Nat} (hj : j < m) (e : itZ s l m z = itZ s l j z) (ht : j ≤ t) : itZ s l (j + (t - j) % (m - j)) z = itZ s l t z := by
  have h := again_at (s := s) (l := l) (z := z) (j := j) (p := m - j) (by rw [show j + (m - j) = m by omega]; exact e) ((t - j) / (m - j)) ((t - j) % (m - j))
  rw [← h]
  congr 1
  have := Nat.div_add_mod (t - j) (m - j)
  rw [Nat.mul_comm] at this
  omega
/-- how many rounds till a showing comes again, and which one -/
def RF (s : List Int) (l : List Stp) (z : List Int) (m j : Nat) : Prop := Dist s l z m ∧ j < m ∧ itZ s l m z = itZ s l j z
theorem RF.uniq {s : List Int} {l : List Stp} {z : List Int} {m j m' j' : Nat} (h : RF s l z m j) (h' : RF s l z m' j') : m = m' ∧ j = j' := by
  obtain ⟨d, a, e⟩ := h
  obtain ⟨d', a', e'⟩ := h'
  have hm : m = m' := by
    rcases Nat.lt_trichotomy m m' with q | q | q
    · exact absurd e.symm (d' j m a q)
    · exact q
    · exact absurd e'.symm (d j' m' a' q)
  subst hm
  refine ⟨rfl, ?_⟩
  rcases Nat.lt_trichotomy j j' with q | q | q
  · exact absurd (e.symm.trans e') (d j j' q a')
  · exact q
  · exact absurd (e'.symm.trans e) (d j' j q a)
/-! the dict of those seen -/
def seenO (s : List Int) (l : List Stp) (z : List Int) (m : Nat) : List (List Key × V) := (List.range m).map fun i => (kI (itZ s l i z), V.int (i : Nat))
theorem seenO_succ {s : List Int} {l : List Stp} {z : List Int} (m : Nat) : seenO s l z (m + 1) = seenO s l z m ++ [(kI (itZ s l m z), V.int (m : Nat))] := by
  unfold seenO
  rw [List.range_succ, List.map_append]
  rfl
theorem seenO_none {s : List Int} {l : List Stp} {z y : List Int} {m : Nat} (h : y ∉ orbL s l z m) : valV (seenO s l z m) (kI y) = none := by
  unfold valV
  rw [Option.map_eq_none_iff, List.find?_eq_none]
  intro p hp
  obtain ⟨i, hi, rfl⟩ := List.mem_map.mp hp
  intro e
  exact h (mem_orbL.mpr ⟨i, List.mem_range.mp hi, kI_inj (of_decide_eq_true e)⟩)
theorem seenO_some {s : List Int} {l : List Stp} {z : List Int} {j : Nat} : ∀ {m : Nat}, Dist s l z m → j < m → valV (seenO s l z m) (kI (itZ s l j z)) = some (.int (j : Nat))
  | 0, _, h => absurd h (Nat.not_lt_zero _)
  | m + 1, d, h => by
    rw [seenO_succ]
    by_cases hm : j = m
    · subst hm
      have hn := seenO_none (s := s) (l := l) (z := z) (y := itZ s l j z) (m := j) fun q => by
        obtain ⟨i, hi, e⟩ := mem_orbL.mp q
        exact d i j hi (by omega) e
      unfold valV at hn ⊢
      rw [Option.map_eq_none_iff] at hn
      rw [List.find?_append, hn]
      simp
    · have hs := seenO_some (s := s) (l := l) (z := z) (j := j) (m := m) (fun i k hik hk => d i k hik (by omega)) (by omega)
      unfold valV at hs ⊢
      obtain ⟨p, h1, h2⟩ := Option.map_eq_some_iff.mp hs
      rw [List.find?_append, h1]
      simpa using h2
theorem seenO_put {s : List Int} {l : List Stp} {z : List Int} {m : Nat} (h : itZ s l m z ∉ orbL s l z m) : putK (seenO s l z m) (kI (itZ s l m z)) (V.int (m : Nat)) = seenO s l z (m + 1) := by
  rw [seenO_succ]
  unfold putK
  rw [if_neg]
  intro e
  obtain ⟨p, hp, h2⟩ := List.any_eq_true.mp e
  obtain ⟨i, hi, rfl⟩ := List.mem_map.mp hp
  exact h (mem_orbL.mpr ⟨i, List.mem_range.mp hi, kI_inj (of_decide_eq_true h2)⟩)
theorem okZ_snoc {z s : List Int} {x y : Int} (h : OkZ z s) (h0 : 0 ≤ x) (h1 : x < y) : OkZ (z ++ [x]) (s ++ [y]) := by
  induction z generalizing s with
  | nil =>
    cases s with
    | nil => exact ⟨h0, h1, trivial⟩
    | cons _ _ => exact h.elim
  | cons a z ih =>
    cases s with
    | nil => exact h.elim
    | cons b s => exact ⟨h.1, h.2.1, ih h.2.2⟩
/-! promises -/
def spRowsFrom (K : PySem.W.Frag) (C : Addr) : Sp := fun vs H Q _ => ∃ (a b z : Addr) (n : Nat) (l : List Stp) (s z0 : List Int) (most : Nat), vs = [.ref a, .ref b, .ref z, .int most] ∧ Scr K C H a n l ∧ SqT K H b (vI s) ∧ s.length = n ∧ (∀ x ∈ s, 2 ≤ x) ∧ H z = some (.tup (vI z0)) ∧ OkZ z0 s ∧ (prodZ s ≤ 10000 ∨ most ≤ 10000) ∧
  ∀ (p q : Addr) (ws : List V) (m : Nat) (v : V) (H' : Hp), Kp [] H H' → H' p = some (.tup [.ref q, v]) → H' q = some (.lst ws) → TrA H' ws (orbL s l z0 m) → Dist s l z0 m → m ≤ 10001 → ((∃ j, j < m ∧ itZ s l m z0 = itZ s l j z0 ∧ v = .int (j : Nat)) ∨ m = most + 1) → Q (.ref p) H'
def spBehind (K : PySem.W.Frag) (C : Addr) : Sp := fun vs H Q _ => ∃ (a b z : Addr) (n : Nat) (l : List Stp) (s z0 : List Int) (t : Nat), vs = [.ref a, .ref b, .ref z, .int t] ∧ Scr K C H a n l ∧ SqT K H b (vI s) ∧ s.length = n ∧ SzOk s ∧ H z = some (.tup (vI z0)) ∧ OkZ z0 s ∧ (prodZ s ≤ 10000 ∨ t ≤ 10000) ∧ t ≤ 10 ^ 30 ∧
  ∀ (p : Addr) (H' : Hp), Kp [] H H' → H' p = some (.tup (vI (itZ s l t z0))) → Q (.ref p) H'
def spRounds (K : PySem.W.Frag) (C : Addr) : Sp := fun vs H Q _ => ∃ (a b : Addr) (n : Nat) (l : List Stp) (s : List Int), vs = [.ref a, .ref b] ∧ Scr K C H a n l ∧ SqT K H b (vI s) ∧ s.length = n ∧ SzOk s ∧ prodZ s ≤ 10000 ∧
  ∀ (p : Addr) (m j : Nat) (H' : Hp), Kp [] H H' → RF s l (zeros s.length) m j → m ≤ 10000 → H' p = some (.tup (vI [(j : Int), (m : Int) - (j : Int)])) → Q (.ref p) H'
def spLRows (K : PySem.W.Frag) : Sp := fun vs H Q _ => ∃ (z b t : Addr) (s z0 : List Int) (xs : List V) (l : List Stp), vs = [.ref z, .ref b, .ref t] ∧ SqT K H z (vI z0) ∧ SqT K H b (vI s) ∧ OkZ z0 s ∧ (∀ x ∈ s, 2 ≤ x) ∧ s.length ≤ 3 ∧ SqT K H t xs ∧ TdA K H xs (l.map Stp.dat) ∧ StepsOk s.length l ∧ prodZ s ≤ 10000 ∧
  ∀ (p q : Addr) (ws : List V) (m j : Nat) (H' : Hp), H q = none → Kp [] H H' → H' p = some (.tup [.ref q, .int (j : Nat)]) → H' q = some (.lst ws) → TdA K H' ws ((orbL s l z0 m).map dInts) → RF s l z0 m j → m ≤ 10000 → Q (.ref p) H'
end WZ

/-! a comprehension with two fors -/
namespace WZ
open PySem PySem.Spec PyProof.Rows L2 StX
def xIn (g1 : TG) (tt1 : TT) (te : TE) (vs1 : List Nat) (σ2 : L2.St) (D : Addr) (Nx : Hp → Prop) : It → Hp → Prop := fun J1 H4 => ∃ W1 : Nat → Nat → Hp → Prop, (∃ m, W1 0 m H4) ∧ ∀ j k H, W1 j k H →
  (J1.stop j H ∧ Nx H) ∨ (J1.go j H ∧ ∃ Nx1 : Hp → Prop, (∀ H', Nx1 H' → ∃ k', k' < k ∧ W1 (j + 1) k' H') ∧ ∀ x H', J1.yld j H x H' → g1 x (wipe σ2 vs1) H' (xTurn tt1 te vs1 σ2 D Nx1))
def xTurn2 (tt : TT) (wi1 : TI) (g1 : TG) (tt1 : TT) (te : TE) (vs vs1 : List Nat) (σ : L2.St) (D : Addr) (Nx : Hp → Prop) : L2.St → Hp → Prop := fun σ2 H2 => wipe σ2 vs = wipe σ vs ∧ tt σ2 H2 (cIf (fun H3 => wi1 σ2 H3 (xIn g1 tt1 te vs1 σ2 D Nx)) Nx)
def xLc2 (g : TG) (tt : TT) (wi1 : TI) (g1 : TG) (tt1 : TT) (te : TE) (vs vs1 : List Nat) (σ : L2.St) (Q : VK) : It → Hp → Prop := fun J H1 => ∀ D, H1 D = none → ∃ W : Nat → Nat → Hp → Prop, (∃ m, W 0 m (upd H1 D (.lst []))) ∧ ∀ i m H, W i m H →
  (J.stop i H ∧ Q (.ref D) H) ∨ (J.go i H ∧ ∃ Nx : Hp → Prop, (∀ H', Nx H' → ∃ m', m' < m ∧ W (i + 1) m' H') ∧ ∀ x H', J.yld i H x H' → g x (wipe σ vs) H' (xTurn2 tt wi1 g1 tt1 te vs vs1 σ D Nx))
section
variable {K : PySem.W.Frag} {σ σ2 : L2.St} {H : Hp} {Q : VK} {te : TE} {tt tt1 : TT} {wi wi1 : TI} {g g1 : TG} {vs vs1 : List Nat} {D : Addr} {Nx : Hp → Prop}
theorem g_lc2 (k : wi σ H (xLc2 g tt wi1 g1 tt1 te vs vs1 σ Q)) : tLc2 wi g tt wi1 g1 tt1 te vs vs1 σ H Q := k
theorem g_xTurn2 (h : wipe σ2 vs = wipe σ vs) (k : tt σ2 H (cIf (fun H3 => wi1 σ2 H3 (xIn g1 tt1 te vs1 σ2 D Nx)) Nx)) : xTurn2 tt wi1 g1 tt1 te vs vs1 σ D Nx σ2 H := ⟨h, k⟩
theorem g_comp2L {a : Addr} {xs : List V} (G : Addr → Nat → List V → Hp → Prop) (h0 : ∀ D H1, H D = none → Kp [] H H1 → G D 0 [] H1) (hl : ∀ D i acc H', i ≤ xs.length → G D i acc H' → SqL K H' a xs)
    (hs : ∀ D i x acc H', H D = none → xs[i]? = some x → H' D = some (.lst acc) → G D i acc H' → g x (wipe σ vs) H' (xTurn2 tt wi1 g1 tt1 te vs vs1 σ D (accP D (G D (i + 1)))))
    (hd : ∀ D acc H', H D = none → H' D = some (.lst acc) → G D xs.length acc H' → Q (.ref D) H') : xLc2 g tt wi1 g1 tt1 te vs vs1 σ Q (Itl K a) H := by
  intro D hD
  refine ⟨fun i m H => m = xs.length - i ∧ i ≤ xs.length ∧ accP D (G D i) H, ⟨xs.length, by simp, Nat.zero_le _, [], upd_same, h0 D _ hD (Kp.new hD)⟩, ?_⟩
  rintro i m H ⟨rfl, hi, acc, e, p⟩
  have q := hl D i acc H hi p
  by_cases hlt : i < xs.length
  · refine .inr ⟨⟨xs, xs[i], q, by simp [hlt]⟩, accP D (G D (i + 1)), fun H' p' => ⟨xs.length - (i + 1), by omega, rfl, hlt, p'⟩, fun x H' y => ?_⟩
    obtain ⟨e', y⟩ := y
    subst e'
    exact hs D i x acc _ hD (y xs q) e p
  · have e' : i = xs.length := by omega
    subst e'
    exact .inl ⟨⟨xs, q, Nat.le_refl _⟩, hd D acc H hD e p⟩
theorem g_inR {lo : Int} {n : Nat} (I : Nat → List V → Hp → Prop) (h0 : accP D (I 0) H) (hs : ∀ j acc H', j < n → H' D = some (.lst acc) → I j acc H' → g1 (.int (lo + j)) (wipe σ2 vs1) H' (xTurn tt1 te vs1 σ2 D (accP D (I (j + 1)))))
    (hd : ∀ acc H', H' D = some (.lst acc) → I n acc H' → Nx H') : xIn g1 tt1 te vs1 σ2 D Nx (Itr lo n) H := by
  refine ⟨fun i m H => m = n - i ∧ i ≤ n ∧ accP D (I i) H, ⟨n, by simp, Nat.zero_le _, h0⟩, ?_⟩
  rintro i m H ⟨rfl, hi, acc, e, p⟩
  by_cases hlt : i < n
  · refine .inr ⟨hlt, accP D (I (i + 1)), fun H' p' => ⟨n - (i + 1), by omega, rfl, hlt, p'⟩, fun x H' y => ?_⟩
    obtain ⟨e', y⟩ := y
    subst e' y
    exact hs i acc _ hlt e p
  · have e' : i = n := by omega
    subst e'
    exact .inl ⟨Nat.le_refl _, hd acc H e p⟩
end
/-! all rows of sizes -/
def ext (b : Nat) (r : List Int) : List (List Int) := (List.range (b - 1)).map fun (j : Nat) => r ++ [2 + (j : Int)]
def rowsZ (b : Nat) : Nat → List (List Int)
  | 0 => [[]]
  | n + 1 => (rowsZ b n).flatMap (ext b)
theorem flat_take {α β : Type} (f : α → List β) {xs : List α} {i : Nat} {x : α} (h : xs[i]? = some x) : (xs.take (i + 1)).flatMap f = (xs.take i).flatMap f ++ f x := by
  rw [List.take_add_one, h, List.flatMap_append]
  simp
theorem rowsZ_mem {b : Nat} : ∀ {n : Nat} {r : List Int}, r ∈ rowsZ b n → r.length = n ∧ ∀ x ∈ r, 2 ≤ x ∧ x ≤ b
  | 0, r, h => by
    rw [List.mem_singleton.mp h]
    exact ⟨rfl, fun _ z => by cases z⟩
  | n + 1, r, h => by
    obtain ⟨q, hq, h2⟩ := List.mem_flatMap.mp h
    obtain ⟨j, hj, rfl⟩ := List.mem_map.mp h2
    obtain ⟨h3, h4⟩ := rowsZ_mem hq
    refine ⟨by simp [h3], fun x hx => ?_⟩
    rcases List.mem_append.mp hx with z | z
    · exact h4 x z
    · rw [List.mem_singleton.mp z]
      have := List.mem_range.mp hj
      omega
theorem rowsZ_len (b : Nat) : ∀ n : Nat, (rowsZ b n).length = (b - 1) ^ n
  | 0 => rfl
  | n + 1 => by
    show ((rowsZ b n).flatMap (ext b)).length = _
    rw [List.length_flatMap]
    have e : ((rowsZ b n).map fun r => (ext b r).length) = List.replicate (rowsZ b n).length (b - 1) := by
      rw [List.eq_replicate_iff]
      refine ⟨by simp, fun x hx => ?_⟩
      obtain ⟨r, _, rfl⟩ := List.mem_map.mp hx
      simp [ext]
    rw [e, List.sum_replicate_nat, rowsZ_len b n, Nat.pow_succ]
end WZ

/-! all sizes up to a bound; showings that are asked about -/
namespace WZ
open PySem PySem.Spec PyProof.Rows L2 StX
def isIntD : PyData → Bool
  | .int _ => true
  | _ => false
def showD : PyData → Bool
  | .tuple ds => ds.all isIntD
  | _ => false
def fitZ (b n : Nat) (l : List Stp) (d : PyData) : List (List Int) := (rowsZ b n).filter fun r => PyData.eqv (dInts (shownZ r l)) d
def spSizesTo (K : PySem.W.Frag) : Sp := fun vs H Q _ => ∃ (n b : Nat), vs = [.int n, .int b] ∧ 2 ≤ b ∧ b ≤ 1000 ∧ (∀ i, i ≤ n → (rowsZ b i).length ≤ 100000) ∧ n ≤ 1000 ∧
  ∀ (p : Addr) (ws : List V) (H' : Hp), H p = none → Kp [] H H' → H' p = some (.lst ws) → TdA K H' ws ((rowsZ b n).map dInts) → Q (.ref p) H'
def spIsShowing (K : PySem.W.Frag) : Sp := fun vs H Q _ => ∃ (v : V) (d : PyData), vs = [v] ∧ Dp K H v d ∧ Sz1 d ∧ ∀ H', Kp [] H H' → Q (.bl (showD d)) H'
def spFitting (K : PySem.W.Frag) (C : Addr) : Sp := fun vs H Q _ => ∃ (a : Addr) (n b : Nat) (l : List Stp) (v : V) (d : PyData), vs = [.ref a, v, .int b] ∧ Scr K C H a n l ∧ Dp K H v d ∧ Sz1 d ∧ SeqAt.shaped d = true ∧ 2 ≤ b ∧ b ≤ 12 ∧ (∀ i, i ≤ n → (rowsZ b i).length ≤ 100000) ∧
  ∀ (p : Addr) (ws : List V) (H' : Hp), H p = none → Kp [] H H' → H' p = some (.lst ws) → TdA K H' ws ((if showD d then fitZ b n l d else []).map dInts) → Q (.ref p) H'
section
variable {K : PySem.W.Frag} {C : Addr} {H : Hp} {Q : VK} {E : XK}
theorem ap_sizesTo {n b : Nat} (h1 : 2 ≤ b) (h2 : b ≤ 1000) (h3 : ∀ i, i ≤ n → (rowsZ b i).length ≤ 100000) (h4 : n ≤ 1000) (k : ∀ (p : Addr) (ws : List V) (H' : Hp), H p = none → Kp [] H H' → H' p = some (.lst ws) → TdA K H' ws ((rowsZ b n).map dInts) → Q (.ref p) H') : spSizesTo K [.int n, .int b] H Q E := ⟨n, b, rfl, h1, h2, h3, h4, k⟩
theorem ap_isShowing {v : V} {d : PyData} (h : Dp K H v d) (z : Sz1 d) (k : ∀ H', Kp [] H H' → Q (.bl (showD d)) H') : spIsShowing K [v] H Q E := ⟨v, d, rfl, h, z, k⟩
theorem ap_fitting {a : Addr} {n b : Nat} {l : List Stp} {v : V} {d : PyData} (h : Scr K C H a n l) (hd : Dp K H v d) (z : Sz1 d) (s : SeqAt.shaped d = true) (h1 : 2 ≤ b) (h2 : b ≤ 12) (h3 : ∀ i, i ≤ n → (rowsZ b i).length ≤ 100000)
    (k : ∀ (p : Addr) (ws : List V) (H' : Hp), H p = none → Kp [] H H' → H' p = some (.lst ws) → TdA K H' ws ((if showD d then fitZ b n l d else []).map dInts) → Q (.ref p) H') : spFitting K C [.ref a, v, .int b] H Q E := ⟨a, n, b, l, v, d, rfl, h, hd, z, s, h1, h2, h3, k⟩
end
theorem rows_small {b n : Nat} (hb : b ≤ 12) (hn : n ≤ 3) : ∀ i, i ≤ n → (rowsZ b i).length ≤ 100000 := fun i hi => by
  rw [rowsZ_len]
  have h1 : (b - 1) ^ i ≤ 11 ^ i := Nat.pow_le_pow_left (by omega) i
  have h2 : (11 : Nat) ^ i ≤ 11 ^ 3 := Nat.pow_le_pow_right (by decide) (by omega)
  have h3 : (11 : Nat) ^ 3 = 1331 := by decide
  omega
theorem SzOk.row {b n : Nat} (hb : b ≤ 1000) {r : List Int} (h : r ∈ rowsZ b n) : SzOk r ∧ r.length = n := by
  obtain ⟨h1, h2⟩ := rowsZ_mem h
  refine ⟨fun x hx => ?_, h1⟩
  obtain ⟨h3, h4⟩ := h2 x hx
  have : (10 : Int) ^ 30 = 1000000000000000000000000000000 := by decide
  omega
theorem eqv_len : ∀ {xs ys : List PyData}, xs.length ≠ ys.length → PyData.eqvAll xs ys = false
  | [], [], h => absurd rfl h
  | [], _ :: _, _ => rfl
  | _ :: _, [], _ => rfl
  | x :: xs, y :: ys, h => by
    rw [PyData.eqvAll, eqv_len (xs := xs) (ys := ys) (by simpa using h), Bool.and_false]
theorem showD_ints (z : List Int) : showD (dInts z) = true := by
  simp only [showD, dInts, List.all_map, List.all_eq_true]
  intro x _
  rfl
theorem filter_take {α : Type} {f : α → Bool} {xs : List α} {i : Nat} {x : α} (h : xs[i]? = some x) : (xs.take (i + 1)).filter f = (xs.take i).filter f ++ (if f x then [x] else []) := by
  rw [List.take_add_one, h, List.filter_append]
  cases hf : f x <;> simp [hf]
theorem ext_take {r : List Int} (j : Nat) : ((List.range (j + 1)).map fun (j : Nat) => r ++ [2 + (j : Int)]) = ((List.range j).map fun (j : Nat) => r ++ [2 + (j : Int)]) ++ [r ++ [2 + (j : Int)]] := by
  rw [List.range_succ, List.map_append]
  rfl
theorem fit_len {b n : Nat} {l : List Stp} {z : List Int} (hb : b ≤ 1000) (hz : z.length ≠ n) : fitZ b n l (dInts z) = [] := by
  unfold fitZ
  rw [List.filter_eq_nil_iff]
  intro r hr
  have h1 := (SzOk.row hb hr).2
  have h2 : PyData.eqv (dInts (shownZ r l)) (dInts z) = false := by
    show PyData.eqvAll _ _ = false
    refine eqv_len ?_
    rw [List.length_map, List.length_map, shownZ_len, h1]
    exact Ne.symm hz
  rw [h2]
  decide
theorem fit_mem {b n : Nat} {l : List Stp} {d : PyData} (hb : b ≤ 1000) (hn : n ≤ 3) : ∀ z ∈ fitZ b n l d, Sm z ∧ z.length ≤ 3 := fun z hz => by
  have h := (List.mem_filter.mp hz).1
  obtain ⟨h1, h2⟩ := rowsZ_mem h
  refine ⟨fun x hx => ?_, by omega⟩
  obtain ⟨h3, h4⟩ := h2 x hx
  have h5 : ((2 ^ 100 : Nat) : Int) = 1267650600228229401496703205376 := by decide
  omega
theorem part_len {b i j : Nat} {xs : List (List Int)} {r : List Int} (h : xs[i]? = some r) (hj : j ≤ b - 1) : ((xs.take i).flatMap (ext b) ++ ((List.range j).map fun (j : Nat) => r ++ [2 + (j : Int)])).length ≤ (xs.flatMap (ext b)).length := by
  have e : xs.flatMap (ext b) = (xs.take (i + 1)).flatMap (ext b) ++ (xs.drop (i + 1)).flatMap (ext b) := by
    rw [← List.flatMap_append, List.take_append_drop]
  rw [e, flat_take (ext b) h]
  have hl : (ext b r).length = b - 1 := by simp [ext]
  simp only [List.length_append, List.length_map, List.length_range, hl]
  omega
end WZ

/-! methods, properties and an own == by their contracts -/
namespace WZ
open PySem PySem.Spec PyProof.Rows L2 StX
/-- a method -/
structure Met (CX : CXT) (P : Program) (w : World) (K : PySem.W.Frag) (mg : Str → Option Value) (base : Heap) (k : Nat) (C : Addr) (m : Str) (sp : Sp) : Prop where
  ex : ∃ (f : Addr) (fd : FuncData) (ps : List Str), FnOk P w K mg base CX k f fd ps sp ∧ Meth K C m f ∧ Cls K C ∧ Binds K fd ps []
/-- a property -/
structure Prp (CX : CXT) (P : Program) (w : World) (K : PySem.W.Frag) (mg : Str → Option Value) (base : Heap) (k : Nat) (C : Addr) (m : Str) (sp : Sp) : Prop where
  ex : ∃ (p g : Addr) (fd : FuncData) (ps : List Str), FnOk P w K mg base CX k g fd ps sp ∧ PropOf K C m p g ∧ Cls K C ∧ Binds K fd ps []
/-- an own == -/
structure Eqs (CX : CXT) (P : Program) (w : World) (K : PySem.W.Frag) (mg : Str → Option Value) (base : Heap) (k : Nat) (C : Addr) (sp : Sp) : Prop where
  ex : ∃ (f : Addr) (fd : FuncData) (ps : List Str), FnOk P w K mg base CX k f fd ps sp ∧ PySem.W.findIn K (.ref C) "__eq__" = some (some (.ref f)) ∧ PySem.W.isFn K (.ref f) = true ∧ Binds K fd ps []
/-- an own __len__ -/
structure Lns (CX : CXT) (P : Program) (w : World) (K : PySem.W.Frag) (mg : Str → Option Value) (base : Heap) (k : Nat) (C : Addr) (sp : Sp) : Prop where
  ex : ∃ (f : Addr) (fd : FuncData) (ps : List Str), FnOk P w K mg base CX k f fd ps sp ∧ PySem.W.findIn K (.ref C) "__len__" = some (some (.ref f)) ∧ PySem.W.isFn K (.ref f) = true ∧ Binds K fd ps []
def rLenI (C : Addr) (sp : Sp) (E : XK) : List V → Hp → VK → Prop := fun xs H Q => ∃ a dx fs, xs = [.ref a] ∧ H a = some (.ins C dx fs) ∧ sp [.ref a] H (fun v H' => ∃ i : Int, v = .int i ∧ 0 ≤ i ∧ i < 2 ^ 63 ∧ Q (.int i) H') E
def rEqIn (C : Addr) (sp : Sp) (E : XK) : R2 := fun x y H Q => ∃ a b dx dy fs gs, x = .ref a ∧ y = .ref b ∧ H a = some (.ins C dx fs) ∧ H b = some (.ins C dy gs) ∧ sp [.ref a, .ref b] H Q E
section
variable {X : Cx} {k j : Nat} {m f : Str} {sp : Sp} {p pos apos : Pos} {e o : Expr} {es : List Expr} {ta : TE} {t : TA} {C : Addr}
theorem pe_me (c : Met CX0 X.prog X.w X.K X.mg X.base k C m sp) (hr : Room j X.A) (hk : k ≤ j) (he : PE X o ta) (ha : PA X (e :: es) t) {pl : Sem Bool}
    (hst : starEach (e :: es) X.env = (false, eval e X.env) :: starEach es X.env := by rfl) (hpl : (backTo pos (starEach es X.env)).any (·.1) = false := by rfl)
    (ht : eval (.Call (.Attribute o m apos) (e :: es) [] pos) X.env = (do
      let ov ← eval o X.env
      standAt apos.atName
      let (f, first) ← holding [ov] (getMethod ov m pl)
      callWith pos f first (backTo pos (starEach (e :: es) X.env)) (backToKw pos (keywordEach [] X.env))) := by rfl) : PE X (.Call (.Attribute o m apos) (e :: es) [] pos) (tMeth C m sp [] E0 ta t) := by
  obtain ⟨f, fd, ps, F, hm, cl, b⟩ := c.ex
  exact pe_meth he cl hm F (hr.mono hk) b .nil pass0 ha hst hpl ht
theorem pe_me0 (c : Met CX0 X.prog X.w X.K X.mg X.base k C m sp) (hr : Room j X.A) (hk : k ≤ j) (he : PE X o ta) {pl : Sem Bool}
    (ht : eval (.Call (.Attribute o m apos) [] [] pos) X.env = (do
      let ov ← eval o X.env
      standAt apos.atName
      let (f, first) ← holding [ov] (getMethod ov m pl)
      callWith pos f first (backTo pos (starEach [] X.env)) (backToKw pos (keywordEach [] X.env))) := by rfl) : PE X (.Call (.Attribute o m apos) [] [] pos) (tMeth C m sp [] E0 ta tNil) := by
  obtain ⟨f, fd, ps, F, hm, cl, b⟩ := c.ex
  exact pe_meth0 he cl hm F (hr.mono hk) b .nil pass0 ht
theorem pe_pr (c : Prp CX0 X.prog X.w X.K X.mg X.base k C m sp) (hr : Room j X.A) (hk : k + 1 ≤ j) (he : PE X e ta) (hab : attributeBase e m X.env (eval e X.env) = eval e X.env) : PE X (.Attribute e m pos) (tProp C sp [] E0 ta) := by
  obtain ⟨p, g, fd, ps, F, hp, cl, b⟩ := c.ex
  exact pe_prop he cl hp F (hr.mono hk) b .nil pass0 hab
theorem op_eqI (c : Eqs CX0 X.prog X.w X.K X.mg X.base k C sp) (hr : Room j X.A) (hk : k ≤ j) : OpR X (compareOp .Eq) (rEqIn C sp E0) := by
  obtain ⟨f, fd, ps, F, hs, hf, hb⟩ := c.ex
  intro pins s σ H x y u v Q I rx ry h
  obtain ⟨a, b, dx, dy, fs, gs, rfl, rfl, ha, hb', hsp⟩ := h
  cases rx
  cases ry
  obtain ⟨mA, J, _⟩ := ins_get I.hok ha
  obtain ⟨mB, J', _⟩ := ins_get I.hok hb'
  obtain ⟨od, J, _⟩ := J.look
  obtain ⟨od', J', _⟩ := J'.look
  obtain ⟨m, hF⟩ := I.fr
  have rm := hr.mono hk
  show wpAny (model X.prog X.w) X.A (richCompare .Eq (.ref a) (.ref b)) (EP X pins σ Q) X.xe s
  refine PySem.W.cmp_K (op := .Eq) (tb := .ref C) rm.units0 hF I.ok.mod.kin J J'.type (by simp [PySem.W.notFirst]) hs hf ?_
  have hl := F.len _ _ _ _ hsp
  have r2 : Vals [V.ref a, V.ref b] [Value.ref a, Value.ref b] := .cons rfl (.cons rfl .nil)
  refine wpAny_call (codeAny_mono (F.run X.A X.stack s H ⟨[.ref a, .ref b], []⟩ [.ref a, .ref b] [.ref a, .ref b] _ E0 rm I.env0 (by
    have := hb s [.ref a, .ref b] I.kIn (by simpa using hl)
    simpa using this) r2 hsp) fun r s' hq => ?_)
  cases r with
  | error e => exact pass0 pins σ H s e s' I hq
  | ok fl =>
    cases fl with
    | ret w =>
      obtain ⟨z, H', I', rz, q⟩ := I.after hq
      cases z with
      | non => cases rz; exact ⟨.non, H', I', rfl, q⟩
      | bl b => cases rz; exact ⟨.bl b, H', I', rfl, q⟩
      | int i => obtain ⟨t, rfl⟩ := rz; exact ⟨.int i, H', I', ⟨t, rfl⟩, q⟩
      | str i => obtain ⟨t, rfl⟩ := rz; exact ⟨.str i, H', I', ⟨t, rfl⟩, q⟩
      | byt i => obtain ⟨t, rfl⟩ := rz; exact ⟨.byt i, H', I', ⟨t, rfl⟩, q⟩
      | flt i => obtain ⟨t, rfl⟩ := rz; exact ⟨.flt i, H', I', ⟨t, rfl⟩, q⟩
      | ref b => cases rz; exact ⟨.ref b, H', I', rfl, q⟩
      | ty b => cases rz; exact ⟨.ty b, H', I', rfl, q⟩
    | next => exact False.elim hq
    | brk => exact False.elim hq
    | cont => exact False.elim hq
theorem cr_lenI (c : Lns CX0 X.prog X.w X.K X.mg X.base k C sp) (hr : Room j X.A) (hk : k + 1 ≤ j) : CallR X (.builtin "len") (rLenI C sp E0) := by
  obtain ⟨f, fd, ps, F, hs, hf, hb⟩ := c.ex
  intro pins s σ H xs us Q I r h
  obtain ⟨a, dx, fs, rfl, ha, hsp⟩ := h
  obtain ⟨u, rfl, ru⟩ := vals1 r
  obtain rfl : u = Value.ref a := ru
  obtain ⟨mA, J, _⟩ := ins_get I.hok ha
  obtain ⟨od, J, _⟩ := J.look
  obtain ⟨m, hF⟩ := I.fr
  have rm : Room k X.A.in1 := (hr.mono hk).in1
  refine PySem.W.len_K hF I.ok.mod.kin J hs hf ?_
  have hl := F.len _ _ _ _ hsp
  have r2 : Vals [V.ref a] [Value.ref a] := .cons rfl .nil
  have e0 : Env0 X.prog X.w X.K X.mg X.base X.A.in1 X.stack s H := by
    have e := I.env0
    exact ⟨e.frames, e.mod, e.bs, e.bsz, e.funs, e.frf, e.hok, e.bare⟩
  refine wpAny_call (codeAny_mono (F.run X.A.in1 X.stack s H ⟨[.ref a], []⟩ [.ref a] [.ref a] _ E0 rm e0 (by
    have := hb s [.ref a] I.kIn (by simpa using hl)
    simpa using this) r2 hsp) fun r s' hq => ?_)
  cases r with
  | error e => exact pass0 pins σ H s e s' I hq
  | ok fl =>
    cases fl with
    | ret w =>
      obtain ⟨z, H', I', rz, i, rfl, h0, h1, q⟩ := I.after hq
      obtain ⟨t, rfl⟩ := rz
      exact ⟨⟨h0, h1⟩, .int i, H', I'.tok _, ⟨_, rfl⟩, q⟩
    | next => exact False.elim hq
    | brk => exact False.elim hq
    | cont => exact False.elim hq
end
section
variable {K : PySem.W.Frag} {σ : L2.St} {H : Hp} {Q : VK} {ta : TE} {t : TA} {sp : Sp} {E : XK} {C : Addr} {m : Str}
def xMe (C : Addr) (m : Str) (sp : Sp) (E : XK) (t : TA) (σ : L2.St) (Q : VK) : VK := fun x H1 => ∃ a dx fs, x = .ref a ∧ H1 a = some (.ins C dx fs) ∧ fs.lookup m = none ∧ t σ H1 fun vs H2 => sp (x :: vs) H2 Q E
theorem g_me (k : ta σ H (xMe C m sp E t σ Q)) : tMeth C m sp [] E ta t σ H Q := by
  have e : (fun (x : V) (H1 : Hp) => ∃ a dx fs, x = .ref a ∧ H1 a = some (.ins C dx fs) ∧ fs.lookup m = Option.none ∧ t σ H1 fun vs H2 => sp (x :: (vs ++ [])) H2 Q E) = xMe C m sp E t σ Q := by
    funext x H1
    simp only [List.append_nil, xMe]
  show ta σ H _
  rw [e]
  exact k
theorem g_xMe {a dx : Addr} {fs : List (Str × V)} (h : H a = some (.ins C dx fs)) (n : fs.lookup m = none) (k : t σ H fun vs H2 => sp (.ref a :: vs) H2 Q E) : xMe C m sp E t σ Q (.ref a) H := ⟨a, dx, fs, rfl, h, n, k⟩
def xPr (C : Addr) (sp : Sp) (E : XK) (Q : VK) : VK := fun x H1 => ∃ a dx fs, x = .ref a ∧ H1 a = some (.ins C dx fs) ∧ sp [.ref a] H1 Q E
theorem g_pr (k : ta σ H (xPr C sp E Q)) : tProp C sp [] E ta σ H Q := k
theorem g_xPr {a dx : Addr} {fs : List (Str × V)} (h : H a = some (.ins C dx fs)) (k : sp [.ref a] H Q E) : xPr C sp E Q (.ref a) H := ⟨a, dx, fs, rfl, h, k⟩
theorem g_rEqIn {a b dx dy : Addr} {fs gs : List (Str × V)} (h1 : H a = some (.ins C dx fs)) (h2 : H b = some (.ins C dy gs)) (k : sp [.ref a, .ref b] H Q E) : rEqIn C sp E (.ref a) (.ref b) H Q := ⟨a, b, dx, dy, fs, gs, rfl, rfl, h1, h2, k⟩
theorem g_lenI {a dx : Addr} {fs : List (Str × V)} (h : H a = some (.ins C dx fs)) (k : sp [.ref a] H (fun v H' => ∃ i : Int, v = .int i ∧ 0 ≤ i ∧ i < 2 ^ 63 ∧ Q (.int i) H') E) : rLenI C sp E [.ref a] H Q := ⟨a, dx, fs, rfl, h, k⟩
end
end WZ

/-! walks -/
namespace WZ
open PySem PySem.Spec PyProof.Rows L2 StX
structure WkT (K : PySem.W.Frag) (C : Addr) : Prop where
  cl : Cls K C
  nW : NoAttr K C "wide"
  nR : NoAttr K C "rows"
  nS : NoAttr K C "steps_done"
  nU : NoAttr K C "undone"
/-- no method's name is a field -/
def NoM (fs : List (Str × V)) : Prop := fs.lookup ("go" : Str) = none ∧ fs.lookup ("do" : Str) = none ∧ fs.lookup ("undo" : Str) = none ∧ fs.lookup ("redo" : Str) = none ∧ fs.lookup ("script" : Str) = none
/-- a Walk stands at a, its own lists at the rest of ps -/
structure Wlk (K : PySem.W.Frag) (C : Addr) (H : Hp) (a : Addr) (ps : List Addr) (s : List Int) (log gone : List Stp) : Prop where
  at_ : ∃ dx fs pr pd pu b rs ds us, ps = [a, pr, pd, pu] ∧ H a = some (.ins C dx fs) ∧ fs.length < 900 ∧ NoM fs ∧ fs.lookup ("wide" : Str) = some (.ref b) ∧ fs.lookup ("rows" : Str) = some (.ref pr) ∧ fs.lookup ("steps_done" : Str) = some (.ref pd) ∧ fs.lookup ("undone" : Str) = some (.ref pu) ∧
    SqT K H b (vI s) ∧ H pr = some (.lst rs) ∧ H pd = some (.lst ds) ∧ H pu = some (.lst us) ∧ TdA K H rs ((traceZ s log).map dInts) ∧ TdA K H ds (log.map Stp.dat) ∧ TdA K H us (gone.map Stp.dat) ∧ pr ≠ pd ∧ pr ≠ pu ∧ pd ≠ pu
  so : SzOk s
  ok : StepsOk s.length log
  okg : StepsOk s.length gone
  n1 : 1 ≤ s.length
  n3 : s.length ≤ 3
section
variable {K : PySem.W.Frag} {C : Addr} {H H' : Hp} {a : Addr} {ps M : List Addr} {s : List Int} {log gone : List Stp}
theorem Kp.wlk (k : Kp M H H') (w : Wlk K C H a ps s log gone) (h : ∀ x ∈ ps, x ∉ M) : Wlk K C H' a ps s log gone := by
  obtain ⟨dx, fs, pr, pd, pu, b, rs, ds, us, rfl, e, z, nm, l1, l2, l3, l4, sb, e1, e2, e3, t1, t2, t3, n1, n2, n3⟩ := w.at_
  refine ⟨⟨dx, fs, pr, pd, pu, b, rs, ds, us, rfl, k.at_ e (h _ (by simp)), z, nm, l1, l2, l3, l4, k.sqT sb, k.at_ e1 (h _ (by simp)), k.at_ e2 (h _ (by simp)), k.at_ e3 (h _ (by simp)), k.tdA t1, k.tdA t2, k.tdA t3, n1, n2, n3⟩, w.so, w.ok, w.okg, w.n1, w.n3⟩
theorem Wlk.ne {p : Addr} (w : Wlk K C H a ps s log gone) (h : H p = none) : p ∉ ps := by
  obtain ⟨dx, fs, pr, pd, pu, b, rs, ds, us, rfl, e, z, nm, l1, l2, l3, l4, sb, e1, e2, e3, _⟩ := w.at_
  intro hm
  simp only [List.mem_cons, List.not_mem_nil, or_false] at hm
  rcases hm with rfl | rfl | rfl | rfl
  · rw [h] at e; cases e
  · rw [h] at e1; cases e1
  · rw [h] at e2; cases e2
  · rw [h] at e3; cases e3
end
def spWInit (K : PySem.W.Frag) (C : Addr) : Sp := fun vs H Q _ => ∃ (p dx b : Addr) (s : List Int), vs = [.ref p, .ref b] ∧ H p = some (.ins C dx []) ∧ SqT K H b (vI s) ∧ SzOk s ∧ 1 ≤ s.length ∧ s.length ≤ 3 ∧
  ∀ (ps : List Addr) (H' : Hp), Kp [p] H H' → (∀ x ∈ ps, x = p ∨ H x = none) → Wlk K C H' p ps s [] [] → Q .non H'
def spGo (K : PySem.W.Frag) (C : Addr) : Sp := fun vs H Q _ => ∃ (a : Addr) (ps : List Addr) (s : List Int) (log gone : List Stp) (v : V) (st : Stp), vs = [.ref a, v] ∧ Wlk K C H a ps s log gone ∧ Td K H v st.dat ∧ st.ok s.length ∧ log.length ≤ 1000 ∧
  ∀ (H' : Hp), Kp ps H H' → Wlk K C H' a ps s (log ++ [st]) gone → Q .non H'
def spWDo (K : PySem.W.Frag) (C : Addr) : Sp := fun vs H Q _ => ∃ (a : Addr) (ps : List Addr) (s : List Int) (log gone : List Stp) (v : V) (st : Stp), vs = [.ref a, v] ∧ Wlk K C H a ps s log gone ∧ Td K H v st.dat ∧ st.ok s.length ∧ st.cnt ≤ 1000 ∧ log.length ≤ 1000 ∧
  ∀ (p : Addr) (ps' : List Addr) (H' : Hp), Kp ps H H' → (∀ x ∈ ps', x ∈ ps ∨ H x = none) → Wlk K C H' a ps' s (log ++ [st]) [] → SqT K H' p (vI (shownZ s (log ++ [st]))) → Q (.ref p) H'
def spUndo (K : PySem.W.Frag) (C : Addr) : Sp := fun vs H Q _ => ∃ (a : Addr) (ps : List Addr) (s : List Int) (log gone : List Stp), vs = [.ref a] ∧ Wlk K C H a ps s log gone ∧ log.length ≤ 1000 ∧ gone.length ≤ 1000 ∧
  ∀ (H' : Hp), Kp ps H H' → Wlk K C H' a ps s log.dropLast (gone ++ log.getLast?.toList) → Q (.bl (!log.isEmpty)) H'
def spRedo (K : PySem.W.Frag) (C : Addr) : Sp := fun vs H Q _ => ∃ (a : Addr) (ps : List Addr) (s : List Int) (log gone : List Stp), vs = [.ref a] ∧ Wlk K C H a ps s log gone ∧ log.length ≤ 1000 ∧ gone.length ≤ 1000 ∧
  ∀ (H' : Hp), Kp ps H H' → Wlk K C H' a ps s (log ++ gone.getLast?.toList) gone.dropLast → Q (.bl (!gone.isEmpty)) H'
def spWShowing (K : PySem.W.Frag) (C : Addr) : Sp := fun vs H Q _ => ∃ (a : Addr) (ps : List Addr) (s : List Int) (log gone : List Stp), vs = [.ref a] ∧ Wlk K C H a ps s log gone ∧ ∀ (p : Addr) (H' : Hp), Kp [] H H' → SqT K H' p (vI (shownZ s log)) → Q (.ref p) H'
def spWLog (K : PySem.W.Frag) (C : Addr) : Sp := fun vs H Q _ => ∃ (a : Addr) (ps : List Addr) (s : List Int) (log gone : List Stp), vs = [.ref a] ∧ Wlk K C H a ps s log gone ∧ log.length ≤ 1000 ∧
  ∀ (p : Addr) (ws : List V) (H' : Hp), H p = none → Kp [] H H' → H' p = some (.lst ws) → TdA K H' ws (log.map Stp.dat) → Q (.ref p) H'
def spWLen (K : PySem.W.Frag) (C : Addr) : Sp := fun vs H Q _ => ∃ (a : Addr) (ps : List Addr) (s : List Int) (log gone : List Stp), vs = [.ref a] ∧ Wlk K C H a ps s log gone ∧ ∀ (H' : Hp), Kp [] H H' → Q (.int log.length) H'
def spWScript (K : PySem.W.Frag) (C D : Addr) : Sp := fun vs H Q _ => ∃ (a : Addr) (ps : List Addr) (s : List Int) (log gone : List Stp) (m : Nat), vs = [.ref a, .int m] ∧ Wlk K C H a ps s log gone ∧ log.length ≤ 1000 ∧ m ≤ log.length ∧ cnts (log.drop (log.length - m)) ≤ 5 ∧
  ∀ (p : Addr) (H' : Hp), H p = none → Kp [] H H' → Scr K D H' p s.length (log.drop (log.length - m)) → Q (.ref p) H'
def spSEq (K : PySem.W.Frag) (D : Addr) : Sp := fun vs H Q _ => ∃ (a b : Addr) (n n' : Nat) (l l' : List Stp), vs = [.ref a, .ref b] ∧ Scr K D H a n l ∧ Scr K D H b n' l' ∧ ∀ (H' : Hp), Kp [] H H' → Q (.bl (decide (n = n') && PyData.eqv (dSteps l) (dSteps l'))) H'
/-- the law's moves over a list of steps -/
def spLRanL (K : PySem.W.Frag) : Sp := fun vs H Q _ => ∃ (a b t : Addr) (z s : List Int) (xs : List V) (l : List Stp), vs = [.ref a, .ref b, .ref t] ∧ SqT K H a (vI z) ∧ SqT K H b (vI s) ∧ OkZ z s ∧ (∀ x ∈ s, 2 ≤ x) ∧ s.length ≤ 3 ∧ H t = some (.lst xs) ∧ TdA K H xs (l.map Stp.dat) ∧ StepsOk s.length l ∧
  ∀ (p : Addr) (H' : Hp), Kp [] H H' → SqT K H' p (vI (runZ s z l)) → Q (.ref p) H'
def spLShownL (K : PySem.W.Frag) : Sp := fun vs H Q _ => ∃ (b t : Addr) (s : List Int) (xs : List V) (l : List Stp), vs = [.ref b, .ref t] ∧ SqT K H b (vI s) ∧ (∀ x ∈ s, 2 ≤ x) ∧ 1 ≤ s.length ∧ s.length ≤ 3 ∧ H t = some (.lst xs) ∧ TdA K H xs (l.map Stp.dat) ∧ StepsOk s.length l ∧
  ∀ (p : Addr) (H' : Hp), Kp [] H H' → SqT K H' p (vI (shownZ s l)) → Q (.ref p) H'
theorem ap_lranL {K : PySem.W.Frag} {H : Hp} {Q : VK} {E : XK} {a b t : Addr} {z s : List Int} {xs : List V} {l : List Stp} (hz : SqT K H a (vI z)) (hs : SqT K H b (vI s)) (ok : OkZ z s) (h2 : ∀ x ∈ s, 2 ≤ x) (h3 : s.length ≤ 3) (ht : H t = some (.lst xs)) (hv : TdA K H xs (l.map Stp.dat)) (ho : StepsOk s.length l) (k : ∀ (p : Addr) (H' : Hp), Kp [] H H' → SqT K H' p (vI (runZ s z l)) → Q (.ref p) H') :
    spLRanL K [.ref a, .ref b, .ref t] H Q E := ⟨a, b, t, z, s, xs, l, rfl, hz, hs, ok, h2, h3, ht, hv, ho, k⟩
theorem ap_lshownL {K : PySem.W.Frag} {H : Hp} {Q : VK} {E : XK} {b t : Addr} {s : List Int} {xs : List V} {l : List Stp} (hs : SqT K H b (vI s)) (h2 : ∀ x ∈ s, 2 ≤ x) (h1 : 1 ≤ s.length) (h3 : s.length ≤ 3) (ht : H t = some (.lst xs)) (hv : TdA K H xs (l.map Stp.dat)) (ho : StepsOk s.length l) (k : ∀ (p : Addr) (H' : Hp), Kp [] H H' → SqT K H' p (vI (shownZ s l)) → Q (.ref p) H') :
    spLShownL K [.ref b, .ref t] H Q E := ⟨b, t, s, xs, l, rfl, hs, h2, h1, h3, ht, hv, ho, k⟩
/-- what isinstance asks of an own class -/
structure IsT (K : PySem.W.Frag) (C : Addr) : Prop where
  ha : PySem.W.findIn K (.ref C) "__class__" = some (some (.builtin "object.__class__"))
  hn : PySem.W.specialIn K (.builtin "object.__class__") "__get__" = some (some (.builtin "getset_descriptor.__get__"))
  htk : PySem.W.takesIn K (.builtin "object.__class__") = some true
  hm : PySem.W.mroIn K C (.type "object") = some true
  kit : PySem.W.kitOne K (.ref C) (.ref C) = some true
theorem kit_self (K : PySem.W.Frag) (C : Addr) : PySem.W.kitOne K (.ref C) (.ref C) = some true := by
  unfold PySem.W.kitOne
  rw [if_pos (by simp)]
theorem g_isiIns {K : PySem.W.Frag} {H : Hp} {Q : VK} {C a dx : Addr} {fs : List (Str × V)} (e : H a = some (.ins C dx fs)) (c : Cls K C) (T : IsT K C) (k : Q (.bl true) H) : rIsi K [.ref a, .ref C] H Q :=
  ⟨_, _, .ref C, .ref C, true, rfl, .own C, .base (.ins e c T.ha T.hn T.htk T.hm), T.kit, k⟩
theorem traceZ_snoc (s : List Int) (l : List Stp) (st : Stp) : traceZ s (l ++ [st]) = traceZ s l ++ [shownZ s (l ++ [st])] := by
  unfold traceZ
  rw [List.length_append, List.length_singleton, List.range_succ, List.map_append]
  congr 1
  · refine List.map_congr_left fun i hi => ?_
    have := List.mem_range.mp hi
    rw [List.take_append_of_le_length (by omega)]
  · simp [List.take_of_length_le]
theorem traceZ_last (s : List Int) (l : List Stp) : (traceZ s l)[l.length]? = some (shownZ s l) := by
  unfold traceZ
  simp
theorem sh_list (l : List Stp) : SeqAt.shaped (.list (l.map Stp.dat)) = true := by
  refine (Lay.lst (k := 3) fun d hd => ?_).sh (by decide)
  obtain ⟨p, _, rfl⟩ := List.mem_map.mp hd
  exact lay_st p
theorem eqv_nilL (l : List Stp) : PyData.eqv (.list (l.map Stp.dat)) (.list []) = l.isEmpty := by
  cases l <;> rfl
theorem g_pop {H : Hp} {Q : VK} {p : Addr} {xs : List V} {y : V} (h : H p = some (.lst xs)) (hy : xs[xs.length - 1]? = some y) (k : ∀ H2, Kp [p] H H2 → H2 p = some (.lst xs.dropLast) → Q y H2) : rPop (.ref p) [] H Q :=
  ⟨p, xs, y, rfl, rfl, h, hy, k _ (Kp.write h) upd_same⟩
theorem putF_same (f : Str) (v : V) : ∀ {fs : List (Str × V)} {x : V}, fs.lookup f = some x → (putF f v fs).length = fs.length
  | [], _, h => by cases h
  | (g, y) :: r, x, h => by
    rw [show putF f v ((g, y) :: r) = (if g = f then (g, v) :: r else (g, y) :: putF f v r) from rfl]
    by_cases hg : g = f
    · rw [if_pos hg]
      rfl
    · rw [if_neg hg, List.length_cons, List.length_cons]
      have hb : (f == g) = false := beq_eq_false_iff_ne.mpr (Ne.symm hg)
      rw [List.lookup_cons, hb] at h
      rw [putF_same f v h]
end WZ

/-! the state of a law over a walk -/
namespace WZ
open PySem PySem.Spec PyProof.Rows L2 StX
/-! how large steps are -/
theorem wt_i3 {x : Int} (h1 : -3 ≤ x) (h2 : x ≤ 3) : (PyData.int x).weight ≤ 2 := by
  obtain rfl | rfl | rfl | rfl | rfl | rfl | rfl : x = -3 ∨ x = -2 ∨ x = -1 ∨ x = 0 ∨ x = 1 ∨ x = 2 ∨ x = 3 := by omega
  all_goals decide +kernel
theorem wt_str (x : Str) {n : Nat} (h : x.cps.size ≤ n) : (PyData.str x).weight ≤ n := by
  simp only [PyData.weight]
  exact h
theorem wt_pl {n : Nat} {p : Pl} (hn : n ≤ 3) (h : p.ok n) : p.dat.weight ≤ 20 := by
  cases p with
  | turn w b k =>
    obtain ⟨h1, h2⟩ := h
    have a := wt_i3 (x := (w : Int)) (by omega) (by omega)
    have c := wt_i3 (x := b) (by omega) (by omega)
    have e : (PyData.str k.s).weight ≤ 4 := by cases k <;> decide +kernel
    have f : (PyData.str ("turn" : Str)).weight ≤ 4 := by decide +kernel
    simp only [Pl.dat, PyData.weight, PyData.weightAll] at a c e f ⊢
    omega
  | set w b =>
    obtain ⟨h1, h2, h3⟩ := h
    have a := wt_i3 (x := (w : Int)) (by omega) (by omega)
    have c := wt_i3 (x := b) (by omega) (by omega)
    have f : (PyData.str ("set" : Str)).weight ≤ 3 := by decide +kernel
    simp only [Pl.dat, PyData.weight, PyData.weightAll] at a c f ⊢
    omega
theorem wt_pls {n : Nat} (hn : n ≤ 3) : ∀ {l : List Pl}, (∀ p ∈ l, p.ok n) → PyData.weightAll (l.map Pl.dat) ≤ 21 * l.length
  | [], _ => Nat.le_refl _
  | p :: r, h => by
    have a := wt_pl hn (h p List.mem_cons_self)
    have b := wt_pls hn (l := r) fun q hq => h q (List.mem_cons_of_mem _ hq)
    simp only [List.map_cons, PyData.weightAll, List.length_cons]
    omega
theorem wt_st {n : Nat} {s : Stp} (hn : n ≤ 3) (h : s.ok n) : s.dat.weight ≤ 40 * s.cnt := by
  cases s with
  | pl p =>
    have := wt_pl hn (p := p) h
    show p.dat.weight ≤ 40 * 1
    omega
  | alike a b f g =>
    obtain ⟨h1, h2, h3, h4⟩ := h
    have wa := wt_i3 (x := (a : Int)) (by omega) (by omega)
    have wb := wt_i3 (x := (b : Int)) (by omega) (by omega)
    have wf := wt_pls hn h3
    have wg := wt_pls hn h4
    have e : (PyData.str ("alike" : Str)).weight ≤ 5 := by decide +kernel
    simp only [Stp.dat, Stp.cnt, PyData.weight, PyData.weightAll] at wa wb wf wg e ⊢
    omega
theorem wt_sts {n : Nat} (hn : n ≤ 3) : ∀ {l : List Stp}, StepsOk n l → PyData.weightAll (l.map Stp.dat) ≤ 41 * cnts l
  | [], _ => Nat.le_refl _
  | p :: r, h => by
    have a := wt_st hn (h p List.mem_cons_self)
    have b := wt_sts hn (l := r) fun q hq => h q (List.mem_cons_of_mem _ hq)
    have c := cnt_pos p
    show p.dat.weight + 1 + PyData.weightAll (r.map Stp.dat) ≤ 41 * (p.cnt + cnts r)
    omega
theorem cnts_3 : ∀ {l : List Stp}, (∀ st ∈ l, st.cnt ≤ 3) → cnts l ≤ 3 * l.length
  | [], _ => Nat.le_refl _
  | p :: r, h => by
    have a := h p List.mem_cons_self
    have b := cnts_3 (l := r) fun q hq => h q (List.mem_cons_of_mem _ hq)
    show p.cnt + cnts r ≤ 3 * (r.length + 1)
    omega
section
variable {K : PySem.W.Frag} {C D : Addr} {H H' : Hp} {a : Addr} {ps M : List Addr} {s : List Int} {log gone : List Stp} {Q : VK} {E : XK} {σ : L2.St} {t : TA} {sp : Sp} {m : Str}
theorem g_xMeW (w : Wlk K C H a ps s log gone) (hm : ∀ fs, NoM fs → fs.lookup m = none) (k : t σ H fun vs H2 => sp (.ref a :: vs) H2 Q E) : xMe C m sp E t σ Q (.ref a) H := by
  obtain ⟨dx, fs, pr, pd, pu, b, rs, ds, us, rfl, e, z, nm, _⟩ := w.at_
  exact g_xMe e (hm _ nm) k
theorem g_xPrW (w : Wlk K C H a ps s log gone) (k : sp [.ref a] H Q E) : xPr C sp E Q (.ref a) H := by
  obtain ⟨dx, fs, pr, pd, pu, b, rs, ds, us, rfl, e, z, nm, _⟩ := w.at_
  exact g_xPr e k
theorem g_lenW (w : Wlk K C H a ps s log gone) (k : sp [.ref a] H (fun v H' => ∃ i : Int, v = .int i ∧ 0 ≤ i ∧ i < 2 ^ 63 ∧ Q (.int i) H') E) : rLenI C sp E [.ref a] H Q := by
  obtain ⟨dx, fs, pr, pd, pu, b, rs, ds, us, rfl, e, z, nm, _⟩ := w.at_
  exact g_lenI e k
theorem ap_wundo (w : Wlk K C H a ps s log gone) (h1 : log.length ≤ 1000) (h2 : gone.length ≤ 1000) (k : ∀ (H' : Hp), Kp ps H H' → Wlk K C H' a ps s log.dropLast (gone ++ log.getLast?.toList) → Q (.bl (!log.isEmpty)) H') : spUndo K C [.ref a] H Q E := ⟨a, ps, s, log, gone, rfl, w, h1, h2, k⟩
theorem ap_wredo (w : Wlk K C H a ps s log gone) (h1 : log.length ≤ 1000) (h2 : gone.length ≤ 1000) (k : ∀ (H' : Hp), Kp ps H H' → Wlk K C H' a ps s (log ++ gone.getLast?.toList) gone.dropLast → Q (.bl (!gone.isEmpty)) H') : spRedo K C [.ref a] H Q E := ⟨a, ps, s, log, gone, rfl, w, h1, h2, k⟩
theorem ap_wdo {v : V} {st : Stp} (w : Wlk K C H a ps s log gone) (hv : Td K H v st.dat) (ho : st.ok s.length) (hc : st.cnt ≤ 1000) (h1 : log.length ≤ 1000) (k : ∀ (p : Addr) (ps' : List Addr) (H' : Hp), Kp ps H H' → (∀ x ∈ ps', x ∈ ps ∨ H x = none) → Wlk K C H' a ps' s (log ++ [st]) [] → SqT K H' p (vI (shownZ s (log ++ [st]))) → Q (.ref p) H') : spWDo K C [.ref a, v] H Q E :=
  ⟨a, ps, s, log, gone, v, st, rfl, w, hv, ho, hc, h1, k⟩
theorem ap_wshowing (w : Wlk K C H a ps s log gone) (k : ∀ (p : Addr) (H' : Hp), Kp [] H H' → SqT K H' p (vI (shownZ s log)) → Q (.ref p) H') : spWShowing K C [.ref a] H Q E := ⟨a, ps, s, log, gone, rfl, w, k⟩
theorem ap_wlog (w : Wlk K C H a ps s log gone) (h1 : log.length ≤ 1000) (k : ∀ (p : Addr) (ws : List V) (H' : Hp), H p = none → Kp [] H H' → H' p = some (.lst ws) → TdA K H' ws (log.map Stp.dat) → Q (.ref p) H') : spWLog K C [.ref a] H Q E := ⟨a, ps, s, log, gone, rfl, w, h1, k⟩
theorem ap_wlen (w : Wlk K C H a ps s log gone) (k : ∀ (H' : Hp), Kp [] H H' → Q (.int log.length) H') : spWLen K C [.ref a] H Q E := ⟨a, ps, s, log, gone, rfl, w, k⟩
theorem ap_wscript {m : Nat} (w : Wlk K C H a ps s log gone) (h1 : log.length ≤ 1000) (hm : m ≤ log.length) (hc : cnts (log.drop (log.length - m)) ≤ 5) (k : ∀ (p : Addr) (H' : Hp), H p = none → Kp [] H H' → Scr K D H' p s.length (log.drop (log.length - m)) → Q (.ref p) H') : spWScript K C D [.ref a, .int m] H Q E := ⟨a, ps, s, log, gone, m, rfl, w, h1, hm, hc, k⟩
theorem ap_walk {b : Addr} (hs : SqT K H b (vI s)) (so : SzOk s) (h1 : 1 ≤ s.length) (h3 : s.length ≤ 3) (k : ∀ (p : Addr) (ps : List Addr) (H' : Hp), Kp [] H H' → (∀ x ∈ ps, H x = none) → Wlk K C H' p ps s [] [] → Q (.ref p) H') : xMk C (spWInit K C) E Q [.ref b] H :=
  g_xMk fun x dx H2 nx k2 e2 => ⟨x, dx, b, s, rfl, e2, k2.sqT hs, so, h1, h3, fun ps H3 k3 hn w => ⟨rfl, k x ps H3 (k2.step1 k3 (.inr nx)) (fun y hy => by
    rcases hn y hy with z | z
    · rw [z]; exact nx
    · exact k2.th.none z) w⟩⟩
theorem g_eqScr {b : Addr} {n n' : Nat} {l l' : List Stp} (sa : Scr K D H a n l) (sb : Scr K D H b n' l') (k : ∀ (H' : Hp), Kp [] H H' → Q (.bl (decide (n = n') && PyData.eqv (dSteps l) (dSteps l'))) H') : rEqIn D (spSEq K D) E (.ref a) (.ref b) H Q := by
  obtain ⟨dx, v, e, t⟩ := sa.at_
  obtain ⟨dy, u, e', t'⟩ := sb.at_
  exact g_rEqIn e e' ⟨a, b, n, n', l, l', rfl, sa, sb, k⟩
theorem ap_alikeB {x : Bool} {n : Nat} (hn : 0 < n) (k : ∀ H', Kp [] H H' → Q (.bl true) H') : spAlike K n [.bl x, .bl x] H Q E := ap_alike (.bool x) (.bl x) (.bl x) rfl (by simp [PyData.depth, hn]) (by simp [PyData.weight]) k
theorem ap_manyW {xs : List V} {l : List Stp} (s : SqT K H a xs) (t : TdA K H xs (l.map Stp.dat)) (hl : l.length ≤ 1000) (k : ∀ (H' : Hp), Kp [] H H' → Q (.int (cnts l)) H') : spMany K [.ref a] H Q E := ⟨a, xs, l, rfl, s, t, hl, k⟩
end
/-- all that stands between two turns: the walk, and the law's own two lists -/
structure WkS (K : PySem.W.Frag) (C : Addr) (H : Hp) (h q a b pl pg : Addr) (s : List Int) (ps : List Addr) (log gone : List Stp) (ls gs : List V) (i : Nat) : Prop where
  src : Src H h q
  wk : Wlk K C H a ps s log gone
  sb : SqT K H b (vI s)
  el : H pl = some (.lst ls)
  tl : TdA K H ls (log.map Stp.dat)
  eg : H pg = some (.lst gs)
  tg : TdA K H gs (gone.map Stp.dat)
  lg : pl ≠ pg
  dis : ∀ x ∈ ps, x ≠ h ∧ x ≠ q ∧ x ≠ pl ∧ x ≠ pg
  lh : pl ≠ h
  lq : pl ≠ q
  gh : pg ≠ h
  gq : pg ≠ q
  len : log.length + gone.length ≤ i
  cnt : ∀ st ∈ log ++ gone, st.cnt ≤ 3
section
variable {K : PySem.W.Frag} {C : Addr} {H H' : Hp} {h q a b pl pg : Addr} {s : List Int} {ps : List Addr} {log gone : List Stp} {ls gs : List V} {i : Nat}
theorem WkS.k0 (w : WkS K C H h q a b pl pg s ps log gone ls gs i) (k : Kp [] H H') : WkS K C H' h q a b pl pg s ps log gone ls gs i :=
  ⟨k.src w.src List.not_mem_nil List.not_mem_nil, k.wlk w.wk fun _ _ => List.not_mem_nil, k.sqT w.sb, k.at_ w.el List.not_mem_nil, k.tdA w.tl, k.at_ w.eg List.not_mem_nil, k.tdA w.tg, w.lg, w.dis, w.lh, w.lq, w.gh, w.gq, w.len, w.cnt⟩
theorem WkS.kS (w : WkS K C H h q a b pl pg s ps log gone ls gs i) (k : Kp [h, q] H H') (S : Src H' h q) : WkS K C H' h q a b pl pg s ps log gone ls gs i :=
  ⟨S, k.wlk w.wk fun x hx => notin2 (w.dis x hx).1 (w.dis x hx).2.1, k.sqT w.sb, k.at_ w.el (notin2 w.lh w.lq), k.tdA w.tl, k.at_ w.eg (notin2 w.gh w.gq), k.tdA w.tg, w.lg, w.dis, w.lh, w.lq, w.gh, w.gq, w.len, w.cnt⟩
theorem WkS.le (w : WkS K C H h q a b pl pg s ps log gone ls gs i) {j : Nat} (hj : i ≤ j) : WkS K C H h q a b pl pg s ps log gone ls gs j :=
  ⟨w.src, w.wk, w.sb, w.el, w.tl, w.eg, w.tg, w.lg, w.dis, w.lh, w.lq, w.gh, w.gq, Nat.le_trans w.len hj, w.cnt⟩
theorem WkS.lens (w : WkS K C H h q a b pl pg s ps log gone ls gs i) : ls.length = log.length ∧ gs.length = gone.length := by
  have h1 := w.tl.length
  have h2 := w.tg.length
  rw [List.length_map] at h1 h2
  exact ⟨h1, h2⟩
theorem move_len (l g : List Stp) : l.dropLast.length + (g ++ l.getLast?.toList).length = l.length + g.length := by
  rcases List.eq_nil_or_concat l with rfl | ⟨l', x, rfl⟩
  · simp
  · simp
    omega
theorem move_mem {l g : List Stp} {x : Stp} (h : x ∈ l.dropLast ++ (g ++ l.getLast?.toList)) : x ∈ l ++ g := by
  rcases List.eq_nil_or_concat l with rfl | ⟨l', y, rfl⟩
  · simpa using h
  · simp at h ⊢
    rcases h with h | h | h <;> simp [h]
theorem move_mem2 {l g : List Stp} {x : Stp} (h : x ∈ (l ++ g.getLast?.toList) ++ g.dropLast) : x ∈ l ++ g := by
  rcases List.eq_nil_or_concat g with rfl | ⟨l', y, rfl⟩
  · simpa using h
  · simp at h ⊢
    rcases h with h | h | h <;> simp [h]
theorem WkS.undo {H1 : Hp} {pg2 : Addr} {ls' gs' : List V} (w : WkS K C H h q a b pl pg s ps log gone ls gs i) (n : H1 pg2 = none) (w1 : Wlk K C H1 a ps s log.dropLast (gone ++ log.getLast?.toList)) (S : Src H1 h q) (l1 : H1 pl = some (.lst ls')) (k : Kp [] H1 H')
    (sb : SqT K H1 b (vI s)) (tl : TdA K H1 ls' (log.dropLast.map Stp.dat)) (e : H' pg2 = some (.lst gs')) (tg : TdA K H1 gs' ((gone ++ log.getLast?.toList).map Stp.dat)) : WkS K C H' h q a b pl pg2 s ps log.dropLast (gone ++ log.getLast?.toList) ls' gs' (i + 1) :=
  ⟨k.src S List.not_mem_nil List.not_mem_nil, k.wlk w1 fun _ _ => List.not_mem_nil, k.sqT sb, k.at_ l1 List.not_mem_nil, k.tdA tl, e, k.tdA tg, ne_of_none l1 n, fun x hx => ⟨(w.dis x hx).1, (w.dis x hx).2.1, (w.dis x hx).2.2.1, fun z => w1.ne n (z ▸ hx)⟩, w.lh, w.lq, S.ne n, S.ne2 n,
    by rw [move_len]; exact Nat.le_succ_of_le w.len, fun st hst => w.cnt st (move_mem hst)⟩
theorem WkS.redo {H1 : Hp} {pl2 : Addr} {ls' gs' : List V} (w : WkS K C H h q a b pl pg s ps log gone ls gs i) (n : H1 pl2 = none) (w1 : Wlk K C H1 a ps s (log ++ gone.getLast?.toList) gone.dropLast) (S : Src H1 h q) (l1 : H1 pg = some (.lst gs')) (k : Kp [] H1 H')
    (sb : SqT K H1 b (vI s)) (tg : TdA K H1 gs' (gone.dropLast.map Stp.dat)) (e : H' pl2 = some (.lst ls')) (tl : TdA K H1 ls' ((log ++ gone.getLast?.toList).map Stp.dat)) : WkS K C H' h q a b pl2 pg s ps (log ++ gone.getLast?.toList) gone.dropLast ls' gs' (i + 1) :=
  ⟨k.src S List.not_mem_nil List.not_mem_nil, k.wlk w1 fun _ _ => List.not_mem_nil, k.sqT sb, e, k.tdA tl, k.at_ l1 List.not_mem_nil, k.tdA tg, (ne_of_none l1 n).symm, fun x hx => ⟨(w.dis x hx).1, (w.dis x hx).2.1, fun z => w1.ne n (z ▸ hx), (w.dis x hx).2.2.2⟩, S.ne n, S.ne2 n, w.gh, w.gq,
    by have := move_len gone log; have := w.len; omega, fun st hst => w.cnt st (move_mem2 hst)⟩
end
end WZ

/-! sum of a tuple; sorted of nested data -/
namespace WZ
open PySem PySem.Spec PyProof.Rows L2
def rSumT (K : PySem.W.Frag) : List V → Hp → VK → Prop := fun vs H Q => ∃ (a : Addr) (ns : List Int), vs = [.ref a] ∧ SqT K H a (vI ns) ∧ Q (.int ns.sum) H
theorem cr_sumT {X : Cx} (hc : X.calm = true) : CallR X (.builtin "sum") (rSumT X.K) := by
  intro pins s σ H vs us Q I r h
  obtain ⟨a, ns, rfl, hs, q⟩ := h
  obtain ⟨its, rv, hl, _⟩ := I.tuple hs
  rw [Vals.ref1 r]
  have hi : IntsAre its ns := Vals.ints (show Vals (ns.map V.int) its from rv)
  obtain ⟨xs, e⟩ := hi.allInts.items
  have hn : numsOf (intItems xs).toList = ns := by rw [← e]; exact hi.numsOf
  rw [nums_intItems] at hn
  have hl2 : s.heap.IsTuple a (intItems xs) := by rw [← e]; exact hl
  refine PySem.W.ktm_sumG (I.ok.hd hc) hl2 fun h' tk t' hk => ?_
  rw [preSum_eq, List.take_of_length_le (by simp), hn]
  exact ⟨.int ns.sum, H, I.kept hk, ⟨_, rfl⟩, q⟩
theorem cr_sumTK {X : Cx} {K : PySem.W.Frag} (hc : X.calm = true) (h : X.K = K := by rfl) : CallR X (.builtin "sum") (rSumT K) := h ▸ cr_sumT hc
theorem g_sumT {K : PySem.W.Frag} {H : Hp} {Q : VK} {a : Addr} {ns : List Int} (h : SqT K H a (vI ns)) (k : Q (.int ns.sum) H) : rSumT K [.ref a] H Q := ⟨a, ns, rfl, h, k⟩
/-- sorted(xs), its items alike data: some arrangement in order -/
def rSortedD (K : PySem.W.Frag) : List V → Hp → VK → Prop := fun vs H Q => ∃ (a : Addr) (xs : List V) (ds : List PyData), vs = [.ref a] ∧ SqL K H a xs ∧ TdA K H xs ds ∧ PySem.W.AllAlike ds ∧ PySem.W.Sortable ds ∧ (∀ d ∈ ds, d.depth ≤ 50) ∧
  ∀ (p : Addr) (ps : List (V × PyData)), H p = none → ps.Perm (xs.zip ds) → ps.Pairwise (fun x y => PySem.W.dataLt y.2 x.2 = false) → Q (.ref p) (upd H p (.lst (ps.map (·.1))))
open PySem.W (EachIs) in
theorem EachIs.imp' {α β : Type} {R S : α → β → Prop} (f : ∀ a b, R a b → S a b) : ∀ {as : List α} {bs : List β}, EachIs R as bs → EachIs S as bs
  | _, _, .nil => .nil
  | _, _, .cons h t => .cons (f _ _ h) (EachIs.imp' f t)
open PySem.W (EachIs) in
theorem each_zip {X : Cx} {pins : List (Addr × Obj)} {σ : L2.St} {H : Hp} {s : Shared} (I : Inv X pins σ H s) : ∀ {xs : List V} {its : List Value} {ds : List PyData}, Vals xs its → TdA X.K H xs ds → EachIs (fun v (p : V × PyData) => RelV p.1 v ∧ (∃ as, Reads s.heap v p.2 as) ∧ p.2 ∈ ds) its (xs.zip ds) ∧ EachIs (fun v d => ∃ as, Reads s.heap v d as) its ds
  | [], _, _, .nil, .nil => ⟨.nil, .nil⟩
  | x :: xs, _, _, .cons r rr, .cons t tt => by
    obtain ⟨e1, e2⟩ := each_zip I rr tt
    have rd := Dp.reads I _ _ _ t.dp r
    exact ⟨.cons ⟨r, rd, List.mem_cons_self⟩ (EachIs.imp' (fun v p ⟨a, b, c⟩ => ⟨a, b, List.mem_cons_of_mem _ c⟩) e1), .cons rd e2⟩
open PySem.W (EachIs) in
theorem each_vals : ∀ {vs : List Value} {ps : List (V × PyData)} {R : V × PyData → Value → Prop}, EachIs (fun v (p : V × PyData) => RelV p.1 v ∧ R p v) vs ps → Vals (ps.map (·.1)) vs
  | _, _, _, .nil => .nil
  | _, _, _, .cons h t => .cons h.1 (each_vals t)
theorem cr_sortedD {X : Cx} {j : Nat} (hr : Room j X.A) : CallR X (.builtin "sorted") (rSortedD X.K) := by
  intro pins s σ H vs us Q I r h
  obtain ⟨a, xs, ds, rfl, hs, ht, hal, hk, hd, q⟩ := h
  obtain ⟨its, rv, hl, hz⟩ := I.list hs
  obtain ⟨u, rfl, ru⟩ := vals1 r
  obtain rfl : u = Value.ref a := ru
  obtain ⟨e1, e2⟩ := each_zip I rv ht
  have hlen : its.length ≤ sizeLine := by rw [← rv.length]; exact hz
  have hu := hr.un
  have up : ∀ b o, s.heap.get? b = some o → (PySem.W.sortingHeap (PySem.W.copyHeap s.heap its) (s.heap.objs.size + 1) its).get? b = some o := fun b o e => PySem.W.sorting_copy_old e
  refine PySem.W.sorted_vals (κ := PySem.W.dataKind (PySem.W.sortingHeap (PySem.W.copyHeap s.heap its) (s.heap.objs.size + 1) its) ds) hl.isList
    (PySem.W.SortsAt.data (s := { s with heap := PySem.W.sortingHeap (PySem.W.copyHeap s.heap its) (s.heap.objs.size + 1) its }) (EachIs.imp' (fun v d ⟨as, r⟩ => ⟨as, Reads.keeps up r⟩) e2) hal hk fun d hm => by
      have := hd d hm
      show X.A.units + 2 + d.depth < cLine
      omega) hlen ?_
  have e3 := PySem.W.sortVals_each (κ := PySem.W.dataKind (PySem.W.sortingHeap (PySem.W.copyHeap s.heap its) (s.heap.objs.size + 1) its) ds) (rev := false) (ks := its) (fun p : V × PyData => PySem.W.keyToks p.2) e1 (EachIs.imp' (fun v p ⟨_, ⟨as, r⟩, hm⟩ => PySem.W.dataKind_some hal hm (Reads.keeps up r)) e1)
  obtain ⟨n, hn⟩ := sortedAll_at s.heap its (PySem.W.sortVals (PySem.W.dataKind (PySem.W.sortingHeap (PySem.W.copyHeap s.heap its) (s.heap.objs.size + 1) its) ds) false its its).toArray
  have hpm := List.mergeSort_perm (xs.zip ds) (PySem.W.sortLe (PySem.W.dataKind (PySem.W.sortingHeap (PySem.W.copyHeap s.heap its) (s.heap.objs.size + 1) its) ds).toKeyOrd false fun p => PySem.W.keyToks p.2)
  have hpw := PySem.W.sort_pairwise (PySem.W.sortLe_total (PySem.W.dataKind (PySem.W.sortingHeap (PySem.W.copyHeap s.heap its) (s.heap.objs.size + 1) its) ds).toKeyOrd false fun p : V × PyData => PySem.W.keyToks p.2) (xs.zip ds)
  generalize (xs.zip ds).mergeSort _ = ps at e3 hpm hpw
  refine ⟨.ref (s.heap.objs.size + 1), upd H (s.heap.objs.size + 1) (.lst (ps.map (·.1))), I.laid (t' := s.toks) (fun b o e => sortedAll_old e) (Nat.le_succ _) ⟨?_, _, n, each_vals e3, hn⟩, rfl, q _ ps (I.hok.fresh (Nat.le_succ _)) hpm (hpw.imp fun {x y} e => ?_)⟩
  · rw [List.length_map, hpm.length_eq, List.length_zip]
    exact Nat.le_trans (Nat.min_le_left _ _) hz
  · have e' : (!PySem.W.dataLt y.2 x.2) = true := e
    simpa using e'
theorem cr_sortedDK {X : Cx} {K : PySem.W.Frag} {j : Nat} (hr : Room j X.A) (h : X.K = K := by rfl) : CallR X (.builtin "sorted") (rSortedD K) := h ▸ cr_sortedD hr
end WZ

/-! all sizes in their order -/
namespace WZ
open PySem PySem.Spec PyProof.Rows L2 StX
/-! the order: by sums, then as tuples -/
def lexR : List Int → List Int → Bool
  | x :: a, y :: b => decide (x < y) || (decide (x = y) && lexR a b)
  | _, _ => false
def ltR (a b : List Int) : Prop := a.sum < b.sum ∨ (a.sum = b.sum ∧ lexR a b = true)
theorem lexR_irr : ∀ a : List Int, lexR a a = false
  | [] => rfl
  | x :: a => by simp [lexR, lexR_irr a]
theorem lexR_tri : ∀ {a b : List Int}, a.length = b.length → lexR a b = false → lexR b a = false → a = b
  | [], [], _, _, _ => rfl
  | x :: a, y :: b, hl, h1, h2 => by
    simp only [lexR, Bool.or_eq_false_iff, decide_eq_false_iff_not, Bool.and_eq_false_iff] at h1 h2
    have e : x = y := by omega
    subst e
    rw [lexR_tri (a := a) (b := b) (by simpa using hl) (by simpa using h1.2) (by simpa using h2.2)]
  | [], _ :: _, hl, _, _ => by simp at hl
  | _ :: _, [], hl, _, _ => by simp at hl
theorem lexR_asym : ∀ {a b : List Int}, lexR a b = true → lexR b a = false
  | [], [], _ => rfl
  | [], _ :: _, _ => rfl
  | _ :: _, [], _ => rfl
  | x :: a, y :: b, h => by
    simp only [lexR, Bool.or_eq_true, decide_eq_true_eq, Bool.and_eq_true] at h
    simp only [lexR, Bool.or_eq_false_iff, decide_eq_false_iff_not, Bool.and_eq_false_iff]
    rcases h with h | ⟨e, h⟩
    · exact ⟨by omega, .inl (by omega)⟩
    · exact ⟨by omega, .inr (lexR_asym h)⟩
theorem ltR_asym {a b : List Int} (h : ltR a b) : ¬ ltR b a := by
  rintro (h2 | ⟨e, h2⟩)
  · rcases h with h | ⟨e, h⟩ <;> omega
  · rcases h with h | ⟨e', h⟩
    · omega
    · rw [lexR_asym h] at h2
      cases h2
theorem ltR_tri {a b : List Int} (hl : a.length = b.length) (h1 : ¬ ltR a b) (h2 : ¬ ltR b a) : a = b := by
  have e : a.sum = b.sum := by
    have q1 : ¬ a.sum < b.sum := fun z => h1 (.inl z)
    have q2 : ¬ b.sum < a.sum := fun z => h2 (.inl z)
    omega
  refine lexR_tri hl ?_ ?_
  · cases h : lexR a b with
    | false => rfl
    | true => exact absurd (.inr ⟨e, h⟩) h1
  · cases h : lexR b a with
    | false => rfl
    | true => exact absurd (.inr ⟨e.symm, h⟩) h2
/-- two lists in the order with the same members are one -/
theorem ord_uniq : ∀ {l m : List (List Int)}, l.Pairwise ltR → m.Pairwise ltR → (∀ x, x ∈ l ↔ x ∈ m) → l = m
  | [], [], _, _, _ => rfl
  | [], y :: m, _, _, h => absurd ((h y).mpr List.mem_cons_self) List.not_mem_nil
  | x :: l, [], _, _, h => absurd ((h x).mp List.mem_cons_self) List.not_mem_nil
  | x :: l, y :: m, hl, hm, h => by
    obtain ⟨l1, l2⟩ := List.pairwise_cons.mp hl
    obtain ⟨m1, m2⟩ := List.pairwise_cons.mp hm
    have e : x = y := by
      rcases List.mem_cons.mp ((h x).mp List.mem_cons_self) with z | z
      · exact z
      · rcases List.mem_cons.mp ((h y).mpr List.mem_cons_self) with u | u
        · exact u.symm
        · exact absurd (m1 x z) (ltR_asym (l1 y u))
    subst e
    rw [ord_uniq l2 m2 fun z => ?_]
    constructor
    · intro hz
      rcases List.mem_cons.mp ((h z).mp (List.mem_cons_of_mem _ hz)) with u | u
      · subst u
        exact absurd (l1 z hz) (fun q => ltR_asym q q)
      · exact u
    · intro hz
      rcases List.mem_cons.mp ((h z).mpr (List.mem_cons_of_mem _ hz)) with u | u
      · subst u
        exact absurd (m1 z hz) (fun q => ltR_asym q q)
      · exact u
/-! Python's order of pairs (sum, row) is that -/
def dPair (r : List Int) : PyData := .tuple [.int r.sum, dInts r]
theorem alike_ints : ∀ {a b : List Int}, a.length = b.length → PySem.W.alikeAll (a.map PyData.int) (b.map PyData.int) = true
  | [], _, _ => by simp [PySem.W.alikeAll]
  | x :: a, y :: b, h => by
    simp only [List.map_cons, PySem.W.alikeAll, PySem.W.alike, Bool.true_and]
    exact alike_ints (by simpa using h)
  | _ :: _, [], h => by simp at h
theorem alike_pair {a b : List Int} (h : a.length = b.length) : PySem.W.alike (dPair a) (dPair b) = true := by
  simp [dPair, PySem.W.alike, PySem.W.alikeAll, dInts, alike_ints h]
theorem eqvAll_ints' : ∀ a b : List Int, PyData.eqvAll (a.map PyData.int) (b.map PyData.int) = decide (a = b)
  | [], [] => rfl
  | [], _ :: _ => rfl
  | _ :: _, [] => rfl
  | x :: a, y :: b => by
    simp only [List.map_cons, PyData.eqvAll, PyData.eqv, eqvAll_ints' a b]
    rw [Bool.eq_iff_iff]
    simp
theorem eqv_dI (a b : List Int) : PyData.eqv (dInts a) (dInts b) = decide (a = b) := eqvAll_ints' a b
theorem lexLt_ints : ∀ {a b : List Int}, a.length = b.length → PyProof.Rows.lexLt itemOrd (PySem.W.keyToksAll (a.map PyData.int)) (PySem.W.keyToksAll (b.map PyData.int)) = lexR a b
  | [], [], _ => by decide
  | x :: a, y :: b, h => by
    have ha : PySem.W.alike (.int x) (.int y) = true := rfl
    by_cases e : x = y
    · subst e
      rw [List.map_cons, List.map_cons, PySem.W.dataLt_all_yes ha (by simp [PyData.eqv]), lexLt_ints (by simpa using h)]
      simp [lexR]
    · rw [List.map_cons, List.map_cons, PySem.W.dataLt_all_no ha (by simpa [PyData.eqv] using e), PySem.W.dataLt_int]
      simp [lexR, e]
  | [], _ :: _, h => by simp at h
  | _ :: _, [], h => by simp at h
theorem dataLt_pair {a b : List Int} (h : a.length = b.length) : PySem.W.dataLt (dPair a) (dPair b) = true ↔ ltR a b := by
  have h1 : PySem.W.alike (.int a.sum) (.int b.sum) = true := rfl
  have h2 : PySem.W.alike (dInts a) (dInts b) = true := by
    show PySem.W.alikeAll _ _ = true
    exact alike_ints h
  unfold dPair
  rw [PySem.W.dataLt_tuple]
  by_cases e : a.sum = b.sum
  · rw [PySem.W.dataLt_all_yes h1 (by simp [PyData.eqv, e])]
    by_cases e2 : a = b
    · subst e2
      rw [PySem.W.dataLt_all_yes h2 (by show PyData.eqvAll _ _ = true; rw [eqvAll_ints']; simp)]
      have q : PyProof.Rows.lexLt itemOrd (PySem.W.keyToksAll []) (PySem.W.keyToksAll []) = false := by decide
      rw [q]
      unfold ltR
      rw [lexR_irr]
      simp
    · rw [PySem.W.dataLt_all_no h2 (by show PyData.eqvAll _ _ = false; rw [eqvAll_ints']; simpa using e2)]
      show PySem.W.dataLt (.tuple (a.map PyData.int)) (.tuple (b.map PyData.int)) = true ↔ _
      rw [PySem.W.dataLt_tuple, lexLt_ints h]
      unfold ltR
      simp [e]
  · rw [PySem.W.dataLt_all_no h1 (by simpa [PyData.eqv] using e), PySem.W.dataLt_int]
    unfold ltR
    simp [e]
def numOf : PyData → Int
  | .int i => i
  | _ => 0
def rowOf : PyData → List Int
  | .tuple [_, .tuple ds] => ds.map numOf
  | _ => []
theorem rowOf_pair (r : List Int) : rowOf (dPair r) = r := by
  show (r.map PyData.int).map numOf = r
  rw [List.map_map]
  induction r with
  | nil => rfl
  | cons x r ih =>
    rw [List.map_cons, ih]
    rfl
theorem zip_rows {acc : List V} {rs : List (List Int)} (h : acc.length = rs.length) : (acc.zip (rs.map dPair)).map (fun p => rowOf p.2) = rs := by
  induction acc generalizing rs with
  | nil =>
    cases rs with
    | nil => rfl
    | cons _ _ => simp at h
  | cons x acc ih =>
    cases rs with
    | nil => simp at h
    | cons r rs =>
      rw [List.map_cons, List.zip_cons_cons, List.map_cons, ih (by simpa using h), rowOf_pair]
theorem tdA_zip {K : PySem.W.Frag} {H : Hp} : ∀ {acc : List V} {ds : List PyData}, TdA K H acc ds → ∀ p ∈ acc.zip ds, Td K H p.1 p.2
  | _, _, .nil, p, h => by cases h
  | _, _, .cons t tt, p, h => by
    rw [List.zip_cons_cons] at h
    rcases List.mem_cons.mp h with e | e
    · rw [e]
      exact t
    · exact tdA_zip tt p e
/-! the program's order -/
def szW (b : Nat) : Nat → Int → List (List Int)
  | 0, _ => []
  | 1, t => if 2 ≤ t ∧ t ≤ b then [[t]] else []
  | n + 2, t => (List.range ((if t < b then t else b) - 1).toNat).flatMap fun (j : Nat) => (szW b (n + 1) (t - (2 + (j : Int)))).map fun r => (2 + (j : Int)) :: r
def InB (b n : Nat) (r : List Int) : Prop := r.length = n ∧ ∀ x ∈ r, 2 ≤ x ∧ x ≤ b
theorem szW_mem {b : Nat} : ∀ {n : Nat} {t : Int} {r : List Int}, r ∈ szW b (n + 1) t ↔ InB b (n + 1) r ∧ r.sum = t
  | 0, t, r => by
    unfold szW
    constructor
    · intro h
      split at h
      · rw [List.mem_singleton.mp h]
        exact ⟨⟨rfl, fun x hx => by rw [List.mem_singleton.mp hx]; assumption⟩, by simp⟩
      · cases h
    · rintro ⟨⟨h1, h2⟩, h3⟩
      obtain ⟨x, rfl⟩ := List.length_eq_one_iff.mp h1
      have := h2 x List.mem_cons_self
      simp at h3
      subst h3
      rw [if_pos this]
      exact List.mem_singleton.mpr rfl
  | n + 1, t, r => by
    unfold szW
    rw [List.mem_flatMap]
    constructor
    · rintro ⟨j, hj, h⟩
      obtain ⟨q, hq, rfl⟩ := List.mem_map.mp h
      obtain ⟨⟨h1, h2⟩, h3⟩ := szW_mem.mp hq
      have := List.mem_range.mp hj
      refine ⟨⟨by simp [h1], fun x hx => ?_⟩, by rw [List.sum_cons, h3]; omega⟩
      rcases List.mem_cons.mp hx with z | z
      · subst z
        split at this <;> omega
      · exact h2 x z
    · rintro ⟨⟨h1, h2⟩, h3⟩
      cases r with
      | nil => simp at h1
      | cons x q =>
        have hx := h2 x List.mem_cons_self
        have hq : ∀ y ∈ q, 2 ≤ y ∧ y ≤ b := fun y hy => h2 y (List.mem_cons_of_mem _ hy)
        have hs : 0 ≤ q.sum := by
          clear h1 h2 h3
          induction q with
          | nil => simp
          | cons y q ih =>
            have a := hq y List.mem_cons_self
            have c := ih fun z hz => hq z (List.mem_cons_of_mem _ hz)
            rw [List.sum_cons]
            omega
        rw [List.sum_cons] at h3
        refine ⟨(x - 2).toNat, List.mem_range.mpr ?_, List.mem_map.mpr ⟨q, szW_mem.mpr ⟨⟨by simpa using h1, hq⟩, by omega⟩, ?_⟩⟩
        · split <;> omega
        · congr 1
          omega
theorem szW_asc {b : Nat} : ∀ {n : Nat} {t : Int}, (szW b (n + 1) t).Pairwise fun x y => lexR x y = true
  | 0, t => by
    unfold szW
    split <;> simp
  | n + 1, t => by
    unfold szW
    rw [List.pairwise_flatMap]
    refine ⟨fun j _ => ?_, ?_⟩
    · rw [List.pairwise_map]
      exact szW_asc.imp fun h => by simp [lexR, h]
    · refine List.pairwise_lt_range.imp fun {i j} hij x hx y hy => ?_
      obtain ⟨q, _, rfl⟩ := List.mem_map.mp hx
      obtain ⟨u, _, rfl⟩ := List.mem_map.mp hy
      simp [lexR]
      omega
def allS (b n : Nat) : List (List Int) := (List.range (b * n + 1 - 2 * n)).flatMap fun (i : Nat) => szW b n (2 * (n : Int) + (i : Int))
theorem sum_bd {b : Nat} : ∀ {r : List Int}, (∀ x ∈ r, 2 ≤ x ∧ x ≤ (b : Int)) → 2 * (r.length : Int) ≤ r.sum ∧ r.sum ≤ b * (r.length : Int)
  | [], _ => by simp
  | x :: r, h => by
    have h1 := h x List.mem_cons_self
    have h2 := sum_bd (r := r) fun y hy => h y (List.mem_cons_of_mem _ hy)
    rw [List.sum_cons, List.length_cons]
    have e : (b : Int) * ((r.length + 1 : Nat) : Int) = b * (r.length : Int) + b := by
      rw [Int.natCast_add, Int.mul_add]
      simp
    omega
theorem allS_mem {b n : Nat} {r : List Int} : r ∈ allS b (n + 1) ↔ InB b (n + 1) r := by
  unfold allS
  rw [List.mem_flatMap]
  constructor
  · rintro ⟨i, _, h⟩
    exact (szW_mem.mp h).1
  · intro h
    have hs := sum_bd h.2
    rw [h.1] at hs
    have e : (b : Int) * ((n + 1 : Nat) : Int) = ((b * (n + 1) : Nat) : Int) := by norm_cast
    rw [e] at hs
    refine ⟨(r.sum - 2 * ((n + 1 : Nat) : Int)).toNat, List.mem_range.mpr ?_, szW_mem.mpr ⟨h, ?_⟩⟩
    · omega
    · omega
theorem allS_ord {b n : Nat} : (allS b (n + 1)).Pairwise ltR := by
  unfold allS
  rw [List.pairwise_flatMap]
  refine ⟨fun i _ => ?_, ?_⟩
  · have h := szW_asc (b := b) (n := n) (t := 2 * ((n + 1 : Nat) : Int) + (i : Int))
    refine List.Pairwise.imp_of_mem (fun {x y} hx hy q => .inr ⟨?_, q⟩) h
    rw [(szW_mem.mp hx).2, (szW_mem.mp hy).2]
  · refine List.pairwise_lt_range.imp fun {i j} hij x hx y hy => .inl ?_
    rw [(szW_mem.mp hx).2, (szW_mem.mp hy).2]
    omega
theorem rowsZ_mem' {b : Nat} : ∀ {n : Nat} {r : List Int}, InB b n r → r ∈ rowsZ b n
  | 0, r, h => by
    rw [List.length_eq_zero_iff.mp h.1]
    exact List.mem_singleton.mpr rfl
  | n + 1, r, h => by
    obtain ⟨q, x, rfl⟩ : ∃ q x, r = q ++ [x] := ⟨r.dropLast, r.getLast (by intro z; rw [z] at h; simp [InB] at h), (List.dropLast_concat_getLast _).symm⟩
    have hx := h.2 x (by simp)
    refine List.mem_flatMap.mpr ⟨q, rowsZ_mem' ⟨by simpa using h.1, fun y hy => h.2 y (by simp [hy])⟩, List.mem_map.mpr ⟨(x - 2).toNat, List.mem_range.mpr (by omega), ?_⟩⟩
    congr 2
    omega
theorem rowsZ_iff {b n : Nat} {r : List Int} : r ∈ rowsZ b n ↔ InB b n r := ⟨fun h => rowsZ_mem h, rowsZ_mem'⟩
/-- all rows, arranged by Python's order of the pairs (sum, row): the program's order -/
theorem sorted_is {b n : Nat} {es : List (List Int)} (hm : ∀ x, x ∈ es ↔ x ∈ rowsZ b (n + 1)) (hn : es.Nodup) (hp : es.Pairwise fun x y => ¬ ltR y x) : es = allS b (n + 1) := by
  refine ord_uniq ?_ allS_ord fun x => by rw [hm, rowsZ_iff, allS_mem]
  have h2 := List.Pairwise.and hp hn
  refine List.Pairwise.imp_of_mem (fun {x y} hx hy ⟨h1, hne⟩ => ?_) h2
  have lx := (rowsZ_iff.mp ((hm x).mp hx)).1
  have ly := (rowsZ_iff.mp ((hm y).mp hy)).1
  by_cases q : ltR x y
  · exact q
  · exact absurd (ltR_tri (lx.trans ly.symm) q h1) hne
theorem rowsZ_nodup (b : Nat) : ∀ n : Nat, (rowsZ b n).Nodup
  | 0 => by simp [rowsZ]
  | n + 1 => by
    show ((rowsZ b n).flatMap (ext b)).Pairwise _
    rw [List.pairwise_flatMap]
    refine ⟨fun r _ => ?_, ?_⟩
    · unfold ext
      rw [List.pairwise_map]
      refine List.pairwise_lt_range.imp fun {i j} hij e => ?_
      have := List.append_inj_right' e rfl
      simp at this
      omega
    · refine List.Pairwise.imp (fun {x y} hne u hu v hv e => ?_) (rowsZ_nodup b n)
      obtain ⟨i, _, rfl⟩ := List.mem_map.mp hu
      obtain ⟨j, _, rfl⟩ := List.mem_map.mp hv
      exact hne (List.append_inj_left' e rfl)
end WZ

/-! what is so at all sizes: the promises -/
namespace WZ
open PySem PySem.Spec PyProof.Rows L2 StX
def Pl.rw : Pl → Nat
  | .turn _ b _ => b.natAbs
  | .set _ _ => 0
def Stp.rw : Stp → Nat
  | .pl p => p.rw
  | .alike _ _ f g => (f.map Pl.rw).sum + (g.map Pl.rw).sum
def reachZ (l : List Stp) : Nat := 1 + (l.map Stp.rw).sum
def bndZ (n r : Nat) : Nat := (n + 2) * r + 4 * n + 1
def dOpt : Option (List Int) → PyData
  | none => .none
  | some r => dInts r
def everZ (l : List Stp) (n w : Nat) (p : Int) : Option (List Int) := (allS (bndZ n (reachZ l)) n).find? fun s => decide ((shownZ s l).getD w 0 = if 0 ≤ p then p else s.getD w 0 + p)
def meetZ (l : List Stp) (n u v : Nat) : Option (List Int) := (allS (bndZ n (reachZ l)) n).find? fun s => decide ((shownZ s l).getD u 0 = (shownZ s l).getD v 0)
def partZ (l m : List Stp) (n : Nat) : Option (List Int) := (allS (bndZ n (max (reachZ l) (reachZ m))) n).find? fun s => decide (¬ shownZ s l = shownZ s m)
def undoZ (l m : List Stp) (n : Nat) : Option (List Int) := (allS (bndZ n (reachZ l + reachZ m)) n).find? fun s => decide (¬ runZ s (shownZ s l) m = zeros n)
/-- a step's own turn, without those within it -/
def topRw : Stp → Nat
  | .pl p => p.rw
  | .alike _ _ _ _ => 0
theorem topRw_pls (l : List Pl) : (((l.map Stp.pl).map topRw).sum : Nat) = (l.map Pl.rw).sum := by
  rw [List.map_map]
  rfl
theorem topRw_flat : ∀ l : List Stp, ((flat l).map topRw).sum = (l.map Stp.rw).sum
  | [] => rfl
  | s :: r => by
    show ((s :: s.inner ++ flat r).map topRw).sum = s.rw + (r.map Stp.rw).sum
    rw [List.map_append, List.sum_append, topRw_flat r]
    cases s with
    | pl p => simp [Stp.inner, topRw, Stp.rw]
    | alike a b f g =>
      have h1 := topRw_pls f
      have h2 := topRw_pls g
      simp only [Stp.inner, List.map_cons, List.map_append, List.sum_cons, List.sum_append, Stp.rw] at h1 h2 ⊢
      rw [h1, h2]
      simp [topRw]
theorem rw_pl {n : Nat} {p : Pl} (h : p.ok n) : p.rw ≤ 2 := by
  cases p with
  | turn w b k =>
    have := h.2
    show b.natAbs ≤ 2
    omega
  | set w p => exact Nat.zero_le _
theorem rw_pls {n : Nat} : ∀ {l : List Pl}, (∀ p ∈ l, p.ok n) → (l.map Pl.rw).sum ≤ 2 * l.length
  | [], _ => Nat.zero_le _
  | p :: r, h => by
    have h1 := rw_pl (h p List.mem_cons_self)
    have h2 := rw_pls (l := r) fun q hq => h q (List.mem_cons_of_mem _ hq)
    rw [List.map_cons, List.sum_cons, List.length_cons]
    omega
theorem rw_st {n : Nat} {s : Stp} (h : s.ok n) : s.rw ≤ 2 * s.cnt := by
  cases s with
  | pl p =>
    have := rw_pl (p := p) h
    show p.rw ≤ 2 * 1
    omega
  | alike a b f g =>
    have h1 := rw_pls h.2.2.1
    have h2 := rw_pls h.2.2.2
    show (f.map Pl.rw).sum + (g.map Pl.rw).sum ≤ 2 * (1 + f.length + g.length)
    omega
theorem reach_le {n : Nat} : ∀ {l : List Stp}, StepsOk n l → reachZ l ≤ 1 + 2 * cnts l
  | [], _ => Nat.le_refl _
  | s :: r, h => by
    have h1 := rw_st (h s List.mem_cons_self)
    have h2 := reach_le (l := r) fun q hq => h q (List.mem_cons_of_mem _ hq)
    unfold reachZ at h2 ⊢
    unfold cnts at h2 ⊢
    rw [List.map_cons, List.map_cons, List.sum_cons, List.sum_cons]
    omega
theorem reach_app (l m : List Stp) : reachZ (l ++ m) + 1 = reachZ l + reachZ m := by
  unfold reachZ
  rw [List.map_append, List.sum_append]
  omega
theorem bndZ_le {n r : Nat} (hn : n ≤ 3) (hr : r ≤ 30) : bndZ n r ≤ 300 := by
  unfold bndZ
  have : (n + 2) * r ≤ 5 * 30 := Nat.mul_le_mul (by omega) hr
  omega
theorem szW_len {b : Nat} : ∀ {n : Nat} {t : Int}, (szW b (n + 1) t).length ≤ b ^ n
  | 0, t => by
    unfold szW
    split <;> simp
  | n + 1, t => by
    unfold szW
    have key : ∀ k : Nat, ((List.range k).flatMap fun (j : Nat) => (szW b (n + 1) (t - (2 + (j : Int)))).map fun r => (2 + (j : Int)) :: r).length ≤ k * b ^ n := by
      intro k
      induction k with
      | zero => simp
      | succ k ih =>
        rw [List.range_succ, List.flatMap_append, List.length_append, Nat.succ_mul]
        have := szW_len (b := b) (n := n) (t := t - (2 + (k : Int)))
        simp only [List.flatMap_cons, List.flatMap_nil, List.append_nil, List.length_map]
        omega
    refine Nat.le_trans (key _) ?_
    rw [Nat.pow_succ, Nat.mul_comm]
    refine Nat.mul_le_mul (Nat.le_refl _) ?_
    split <;> omega
theorem szW_small {b n : Nat} {t : Int} (hb : b ≤ 300) (hn : n ≤ 3) : (szW b n t).length ≤ 90000 := by
  cases n with
  | zero => simp [szW]
  | succ n =>
    refine Nat.le_trans szW_len ?_
    have h1 : b ^ n ≤ 300 ^ n := Nat.pow_le_pow_left hb n
    have h2 : 300 ^ n ≤ 300 ^ 2 := Nat.pow_le_pow_right (by decide) (by omega)
    have h3 : 300 ^ 2 = 90000 := by decide
    omega
theorem szW_pre1 {b n : Nat} {t : Int} (hb : b ≤ 300) (hn : n ≤ 2) : (szW b n t).length ≤ 300 := by
  cases n with
  | zero => simp [szW]
  | succ n =>
    refine Nat.le_trans szW_len ?_
    have h1 : b ^ n ≤ 300 ^ n := Nat.pow_le_pow_left hb n
    have h2 : 300 ^ n ≤ 300 ^ 1 := Nat.pow_le_pow_right (by decide) (by omega)
    omega
theorem szW_pre {b n i : Nat} {t : Int} (hb : b ≤ 300) (hn : n + 1 ≤ 2) (hi : i ≤ b) : ((List.range i).flatMap fun (j : Nat) => (szW b (n + 1) (t - (2 + (j : Int)))).map fun r => (2 + (j : Int)) :: r).length ≤ 90000 := by
  have key : ∀ k : Nat, ((List.range k).flatMap fun (j : Nat) => (szW b (n + 1) (t - (2 + (j : Int)))).map fun r => (2 + (j : Int)) :: r).length ≤ k * 300 := by
    intro k
    induction k with
    | zero => simp
    | succ k ih =>
      rw [List.range_succ, List.flatMap_append, List.length_append, Nat.succ_mul]
      have := szW_pre1 (b := b) (n := n + 1) (t := t - (2 + (k : Int))) hb hn
      simp only [List.flatMap_cons, List.flatMap_nil, List.append_nil, List.length_map]
      omega
  have := key i
  omega
theorem InB.ok {b n : Nat} {r : List Int} (h : InB b n r) (hb : b ≤ 1000) : SzOk r := fun x hx => by
  have h1 := h.2 x hx
  have : (10 : Int) ^ 30 = 1000000000000000000000000000000 := by decide
  omega
/-! finding the first one -/
theorem find_split {α : Type} {f : α → Bool} {pre post : List α} {x : α} (h1 : ∀ y ∈ pre, f y = false) (h2 : f x = true) : (pre ++ x :: post).find? f = some x := by
  rw [List.find?_append, List.find?_eq_none.mpr fun y hy => by rw [h1 y hy]; decide]
  simp [h2]
theorem flat_split {α β : Type} {f : α → List β} {xs : List α} {i j : Nat} {a : α} {b : β} (hi : xs[i]? = some a) (hj : (f a)[j]? = some b) :
    ∃ post, xs.flatMap f = ((xs.take i).flatMap f ++ (f a).take j) ++ b :: post := by
  obtain ⟨h1, h2⟩ := List.getElem?_eq_some_iff.mp hi
  obtain ⟨h3, h4⟩ := List.getElem?_eq_some_iff.mp hj
  refine ⟨(f a).drop (j + 1) ++ (xs.drop (i + 1)).flatMap f, ?_⟩
  have e1 : xs = xs.take i ++ a :: xs.drop (i + 1) := by
    rw [← h2, ← List.drop_eq_getElem_cons h1, List.take_append_drop]
  have e2 : f a = (f a).take j ++ b :: (f a).drop (j + 1) := by
    rw [← h4, ← List.drop_eq_getElem_cons h3, List.take_append_drop]
  conv => lhs; rw [e1]
  rw [List.flatMap_append, List.flatMap_cons]
  conv => lhs; rw [e2]
  simp [List.append_assoc]
theorem opt_none {K : PySem.W.Frag} {H : Hp} {v : V} {o : Option (List Int)} (h : Td K H v (dOpt o)) : decide (v = .non) = o.isNone := by
  cases o with
  | none =>
    cases h
    rfl
  | some r =>
    obtain ⟨a, xs, rfl, _⟩ := Td.inv (ds := r.map PyData.int) h
    rfl
/-! promises -/
def spReachOf (K : PySem.W.Frag) : Sp := fun vs H Q _ => ∃ (a : Addr) (xs : List V) (n : Nat) (l : List Stp), vs = [.ref a] ∧ SqT K H a xs ∧ TdA K H xs (l.map Stp.dat) ∧ StepsOk n l ∧ cnts l ≤ 1000 ∧ ∀ H', Kp [] H H' → Q (.int (reachZ l : Nat)) H'
def spReach (K : PySem.W.Frag) (C : Addr) : Sp := fun vs H Q _ => ∃ (a : Addr) (n : Nat) (l : List Stp), vs = [.ref a] ∧ Scr K C H a n l ∧ ∀ H', Kp [] H H' → Q (.int (reachZ l : Nat)) H'
def spSWheels (K : PySem.W.Frag) (C : Addr) : Sp := fun vs H Q _ => ∃ (a : Addr) (n : Nat) (l : List Stp), vs = [.ref a] ∧ Scr K C H a n l ∧ Q (.int (n : Nat)) H
def spSSteps (K : PySem.W.Frag) (C : Addr) : Sp := fun vs H Q _ => ∃ (a : Addr) (n : Nat) (l : List Stp), vs = [.ref a] ∧ Scr K C H a n l ∧ ∀ (p : Addr) (xs : List V), SqT K H p xs → TdA K H xs (l.map Stp.dat) → Q (.ref p) H
def spBoundOf : Sp := fun vs H Q _ => ∃ (n r : Nat), vs = [.int n, .int r] ∧ n ≤ 3 ∧ r ≤ 1000 ∧ Q (.int (bndZ n r : Nat)) H
def spSizesWith (K : PySem.W.Frag) (k : Nat) : Sp := fun vs H Q _ => ∃ (n b : Nat) (t : Int), vs = [.int n, .int t, .int b] ∧ 1 ≤ n ∧ n ≤ k ∧ n ≤ 3 ∧ b ≤ 300 ∧ -1000 ≤ t ∧ t ≤ 1000 ∧
  ∀ (p : Addr) (ws : List V) (H' : Hp), H p = none → Kp [] H H' → H' p = some (.lst ws) → TdA K H' ws ((szW b n t).map dInts) → Q (.ref p) H'
def spCheckWheel (K : PySem.W.Frag) (C : Addr) : Sp := fun vs H Q _ => ∃ (a : Addr) (n w : Nat) (l : List Stp), vs = [.ref a, .int w] ∧ Scr K C H a n l ∧ w < n ∧ ∀ H', Kp [] H H' → Q .non H'
def spEver (K : PySem.W.Frag) (C : Addr) : Sp := fun vs H Q _ => ∃ (a : Addr) (n w : Nat) (l : List Stp) (p : Int), vs = [.ref a, .int w, .int p] ∧ Scr K C H a n l ∧ w < n ∧ -3 ≤ p ∧ p ≤ 3 ∧ ∀ (v : V) (H' : Hp), Kp [] H H' → Td K H' v (dOpt (everZ l n w p)) → Q v H'
def spMeeting (K : PySem.W.Frag) (C : Addr) : Sp := fun vs H Q _ => ∃ (a : Addr) (n x y : Nat) (l : List Stp), vs = [.ref a, .int x, .int y] ∧ Scr K C H a n l ∧ x < n ∧ y < n ∧ x ≠ y ∧ ∀ (v : V) (H' : Hp), Kp [] H H' → Td K H' v (dOpt (meetZ l n x y)) → Q v H'
def spParting (K : PySem.W.Frag) (C : Addr) : Sp := fun vs H Q _ => ∃ (a b : Addr) (n : Nat) (l m : List Stp), vs = [.ref a, .ref b] ∧ Scr K C H a n l ∧ Scr K C H b n m ∧ ∀ (v : V) (H' : Hp), Kp [] H H' → Td K H' v (dOpt (partZ l m n)) → Q v H'
def spAlikeS (K : PySem.W.Frag) (C : Addr) : Sp := fun vs H Q _ => ∃ (a b : Addr) (n : Nat) (l m : List Stp), vs = [.ref a, .ref b] ∧ Scr K C H a n l ∧ Scr K C H b n m ∧ ∀ (H' : Hp), Kp [] H H' → Q (.bl (partZ l m n).isNone) H'
def spUndone (K : PySem.W.Frag) (C : Addr) : Sp := fun vs H Q _ => ∃ (a b : Addr) (n : Nat) (l m : List Stp), vs = [.ref a, .ref b] ∧ Scr K C H a n l ∧ Scr K C H b n m ∧ ∀ (v : V) (H' : Hp), Kp [] H H' → Td K H' v (dOpt (undoZ l m n)) → Q v H'
def spIsSame (K : PySem.W.Frag) (C : Addr) : Sp := fun vs H Q _ => ∃ (a b : Addr) (n : Nat) (l m : List Stp) (xs : List V), vs = [.ref a, .ref b] ∧ Scr K C H a n l ∧ SqT K H b xs ∧ TdA K H xs (m.map Stp.dat) ∧ StepsOk n m ∧ cnts m ≤ 5 ∧ ∀ (H' : Hp), Kp [] H H' → Q (.bl (partZ l m n).isNone) H'
def needZ (l : List Stp) (n : Nat) : List Int := ((List.range l.length).filter fun i => (partZ l (l.take i ++ l.drop (i + 1)) n).isNone).map fun (i : Nat) => (i : Int)
def exch (l : List Stp) (i : Nat) : List Stp := l.take i ++ (((l.drop i).take 2).reverse ++ l.drop (i + 2))
def swapZ (l : List Stp) (n : Nat) : List Int := ((List.range (l.length - 1)).filter fun i => (partZ l (exch l i) n).isNone).map fun (i : Nat) => (i : Int)
def spNeedless (K : PySem.W.Frag) (C : Addr) : Sp := fun vs H Q _ => ∃ (a : Addr) (n : Nat) (l : List Stp), vs = [.ref a] ∧ Scr K C H a n l ∧ ∀ (p : Addr) (H' : Hp), H p = none → Kp [] H H' → H' p = some (.lst (vI (needZ l n))) → Q (.ref p) H'
def spSwaps (K : PySem.W.Frag) (C : Addr) : Sp := fun vs H Q _ => ∃ (a : Addr) (n : Nat) (l : List Stp), vs = [.ref a] ∧ Scr K C H a n l ∧ ∀ (p : Addr) (H' : Hp), H p = none → Kp [] H H' → H' p = some (.lst (vI (swapZ l n))) → Q (.ref p) H'
def spLReach (K : PySem.W.Frag) (k : Nat) : Sp := fun vs H Q _ => ∃ (a : Addr) (xs : List V) (n : Nat) (l : List Stp), vs = [.ref a] ∧ SqT K H a xs ∧ TdA K H xs (l.map Stp.dat) ∧ StepsOk n l ∧ (∀ s ∈ l, s.dep < k) ∧ 0 < k ∧ Q (.int (reachZ l : Nat)) H
def spLEvery (K : PySem.W.Frag) : Sp := fun vs H Q _ => ∃ (n r : Nat), vs = [.int n, .int r] ∧ 1 ≤ n ∧ n ≤ 3 ∧ r ≤ 1000 ∧ (∀ i, i ≤ n → (rowsZ (bndZ n r) i).length ≤ 1000000) ∧
  ∀ (p : Addr) (ws : List V) (H' : Hp), H p = none → Kp [] H H' → H' p = some (.lst ws) → TdA K H' ws ((allS (bndZ n r) n).map dInts) → Q (.ref p) H'
theorem no_sizesW {K : PySem.W.Frag} : ∀ vs H Q E, ¬ spSizesWith K 0 vs H Q E := fun vs H Q E h => by
  obtain ⟨_, _, _, _, h1, h2, _⟩ := h
  omega
theorem no_lreach {K : PySem.W.Frag} : ∀ vs H Q E, ¬ spLReach K 0 vs H Q E := fun vs H Q E h => by
  obtain ⟨_, _, _, _, _, _, _, _, _, h1, _⟩ := h
  omega
theorem filt_next (g : Nat → Bool) (j : Nat) : ((List.range (j + 1)).filter g).map (fun (i : Nat) => (i : Int)) = ((List.range j).filter g).map (fun (i : Nat) => (i : Int)) ++ if g j then [(j : Int)] else [] := by
  rw [List.range_succ, List.filter_append, List.map_append]
  cases h : g j <;> simp [h]
theorem cnts_sum (l : List Stp) : cnts l = (l.map Stp.cnt).sum := rfl
theorem cnts_out (l : List Stp) (j : Nat) : cnts (l.take j ++ l.drop (j + 1)) ≤ cnts l := by
  rcases Nat.lt_or_ge j l.length with h | h
  · conv => rhs; rw [← List.take_append_drop j l, List.drop_eq_getElem_cons h]
    rw [cnts_sum, cnts_sum, List.map_append, List.map_append, List.sum_append, List.sum_append, List.map_cons, List.sum_cons]
    omega
  · rw [List.take_of_length_le h, List.drop_of_length_le (by omega), List.append_nil]
    exact Nat.le_refl _
theorem exch_at {l : List Stp} {i : Nat} (h : i + 1 < l.length) : ∃ x y, l[i]? = some x ∧ l[i + 1]? = some y ∧ l = l.take i ++ (x :: y :: l.drop (i + 2)) ∧ exch l i = l.take i ++ ([y, x] ++ l.drop (i + 2)) := by
  have e1 : l.drop i = l[i] :: l[i + 1] :: l.drop (i + 2) := by rw [List.drop_eq_getElem_cons (by omega), List.drop_eq_getElem_cons h]
  refine ⟨l[i], l[i + 1], List.getElem?_eq_getElem _, List.getElem?_eq_getElem _, ?_, ?_⟩
  · rw [← e1, List.take_append_drop]
  · unfold exch
    rw [e1]
    rfl
theorem exch_sum {l : List Stp} {i : Nat} (g : Stp → Nat) (h : i + 1 < l.length) : ((exch l i).map g).sum = (l.map g).sum := by
  obtain ⟨x, y, _, _, e1, e2⟩ := exch_at h
  rw [e2]
  conv => rhs; rw [e1]
  simp only [List.map_append, List.sum_append, List.map_cons, List.sum_cons, List.map_nil, List.sum_nil]
  omega
theorem exch_mem {l : List Stp} {i : Nat} (h : i + 1 < l.length) {s : Stp} (hs : s ∈ exch l i) : s ∈ l := by
  obtain ⟨x, y, _, _, e1, e2⟩ := exch_at h
  rw [e2] at hs
  rw [e1]
  simp only [List.mem_append, List.mem_cons, List.not_mem_nil, or_false] at hs ⊢
  rcases hs with h | (h | h) | h
  · exact .inl h
  · exact .inr (.inr (.inl h))
  · exact .inr (.inl h)
  · exact .inr (.inr (.inr h))
theorem reach_out (l : List Stp) (j : Nat) : reachZ (l.take j ++ l.drop (j + 1)) ≤ reachZ l := by
  unfold reachZ
  rcases Nat.lt_or_ge j l.length with h | h
  · conv => rhs; rw [← List.take_append_drop j l, List.drop_eq_getElem_cons h]
    rw [List.map_append, List.map_append, List.sum_append, List.sum_append, List.map_cons, List.sum_cons]
    omega
  · rw [List.take_of_length_le h, List.drop_of_length_le (by omega), List.append_nil]
    exact Nat.le_refl _
theorem exch_reach {l : List Stp} {i : Nat} (h : i + 1 < l.length) : reachZ (exch l i) = reachZ l := by
  unfold reachZ
  rw [exch_sum _ h]
theorem swap_end (g : Nat → Bool) : ∀ L : Nat, ((List.range L).filter fun i => decide (i + 1 < L) && g i) = (List.range (L - 1)).filter g
  | 0 => rfl
  | L + 1 => by
    rw [List.range_succ, List.filter_append, Nat.add_sub_cancel]
    have e : [L].filter (fun i => decide (i + 1 < L + 1) && g i) = [] := by simp
    rw [e, List.append_nil]
    refine List.filter_congr fun x hx => ?_
    have := List.mem_range.mp hx
    simp [this]
theorem cutV_mid {xs : List V} {i : Nat} (j : Nat) (h : i ≤ xs.length) : cutV xs (some (i : Int)) (some ((i + j : Nat) : Int)) = (xs.drop i).take j := by
  unfold cutV
  rw [show HT.sIx xs.length 0 (some (i : Int)) = min i xs.length from HT.sIx_nat _ _ i, show HT.sIx xs.length xs.length (some ((i + j : Nat) : Int)) = min (i + j) xs.length from HT.sIx_nat _ _ (i + j), Nat.min_eq_left h, List.take_eq_take_iff, List.length_drop]
  omega
def dList (z : List Int) : PyData := .list (z.map PyData.int)
theorem dList_w {z : List Int} (h : Sm z) : (dList z).weight ≤ 101 * z.length := w_ints h
theorem dList_d (z : List Int) : (dList z).depth = 1 := by
  show PyData.depthAll (z.map PyData.int) + 1 = 1
  rw [dp_ints]
theorem dList_s (z : List Int) : SeqAt.shaped (dList z) = true := by
  unfold SeqAt.shaped
  rw [dList_d]
  have : (dList z).canLay0 = true := can_ints z
  rw [this]
  rfl
theorem ap_alikeLI {K : PySem.W.Frag} {H : Hp} {Q : VK} {E : XK} {n : Nat} {a b : Addr} {z : List Int} (h1 : H a = some (.lst (vI z))) (h2 : H b = some (.lst (vI z))) (hs : Sm z) (h3 : z.length ≤ 300) (hn : 1 < n) (k : ∀ H', Kp [] H H' → Q (.bl true) H') : spAlike K n [.ref a, .ref b] H Q E :=
  ap_alike (dList z) (.lst (SqL.of h1) (TdA.vI z).dp) (.lst (SqL.of h2) (TdA.vI z).dp) (dList_s z) (by rw [dList_d]; exact hn) (by have := dList_w hs; omega) k
theorem sm_range (g : Nat → Bool) {n : Nat} (h : n ≤ 300) : Sm (((List.range n).filter g).map fun (i : Nat) => (i : Int)) := fun x hx => by
  obtain ⟨i, hi, rfl⟩ := List.mem_map.mp hx
  have := List.mem_range.mp (List.mem_filter.mp hi).1
  have : (2 : Nat) ^ 100 > 20000 := by decide
  omega
theorem len_range (g : Nat → Bool) (n : Nat) : (((List.range n).filter g).map fun (i : Nat) => (i : Int)).length ≤ n := by
  rw [List.length_map]
  exact Nat.le_trans (List.length_filter_le _ _) (by simp)
end WZ

/-! places told from either end: the same at all sizes that are great and far apart -/
namespace WZ
open PySem PySem.Spec PyProof.Rows L2 StX
--PLAIN
abbrev Cd := Bool × Int
def Cd.at (c : Cd) (s : Int) : Int := if c.1 = true then c.2 else s - 1 - c.2
def decs : List Cd → List Int → List Int
  | c :: cs, s :: ss => Cd.at c s :: decs cs ss
  | _, _ => []
def acar (c : Int) : List Cd → Int → List Cd
  | [], _ => []
  | x :: r, b => if b = 0 then x :: r else
    if x.1 = true then (if x.2 + b < 0 then (false, -(x.2 + b) - 1) :: acar c r (-1 * c) else (true, x.2 + b) :: acar c r (0 * c))
    else (if x.2 < b then (true, b - 1 - x.2) :: acar c r (1 * c) else (false, x.2 - b) :: acar c r (0 * c))
def aPl (cs : List Cd) : Pl → List Cd
  | .turn w b k => cs.take w ++ acar k.c (cs.drop w) b
  | .set w p => cs.set w (if 0 ≤ p then (true, p) else (false, -1 - p))
def aPls (cs : List Cd) (l : List Pl) : List Cd := l.foldl aPl cs
def sameC (x y : Cd) : Bool := x.1 && y.1 && decide (x.2 = y.2)
def aSt (cs : List Cd) : Stp → List Cd
  | .pl p => aPl cs p
  | .alike a b f g => aPls cs (if sameC (cs.getD a (true, 0)) (cs.getD b (true, 0)) = true then f else g)
def aRun (cs : List Cd) (l : List Stp) : List Cd := l.foldl aSt cs
def InC (k : Int) (cs : List Cd) : Prop := ∀ c ∈ cs, 0 ≤ c.2 ∧ c.2 ≤ k
def Far (R : Int) (ss : List Int) : Prop := (∀ s ∈ ss, 3 * R + 1 ≤ s) ∧ ss.Pairwise fun x y => R + 1 ≤ x - y ∨ R + 1 ≤ y - x
theorem InC.mono {k m : Int} {cs : List Cd} (h : InC k cs) (hk : k ≤ m) : InC m cs := fun c hc => ⟨(h c hc).1, by have := (h c hc).2; omega⟩
theorem decs_len : ∀ {cs : List Cd} {ss : List Int}, cs.length = ss.length → (decs cs ss).length = ss.length
  | [], [], _ => rfl
  | [], _ :: _, h => by simp at h
  | _ :: _, [], h => by simp at h
  | c :: cs, s :: ss, h => by
    show (decs cs ss).length + 1 = ss.length + 1
    rw [decs_len (by simpa using h)]
theorem decs_app : ∀ {a b : List Cd} {s t : List Int}, a.length = s.length → decs (a ++ b) (s ++ t) = decs a s ++ decs b t
  | [], b, [], t, _ => rfl
  | [], _, _ :: _, _, h => by simp at h
  | _ :: _, _, [], _, h => by simp at h
  | c :: a, b, s :: ss, t, h => by
    show Cd.at c s :: decs (a ++ b) (ss ++ t) = Cd.at c s :: (decs a ss ++ decs b t)
    rw [decs_app (by simpa using h)]
theorem decs_take : ∀ (w : Nat) (cs : List Cd) (ss : List Int), decs (cs.take w) (ss.take w) = (decs cs ss).take w
  | 0, _, _ => by simp [decs]
  | w + 1, [], ss => by simp [decs]
  | w + 1, _ :: _, [] => by simp [decs]
  | w + 1, c :: cs, s :: ss => by simp [decs, decs_take w cs ss]
theorem decs_drop : ∀ (w : Nat) (cs : List Cd) (ss : List Int), decs (cs.drop w) (ss.drop w) = (decs cs ss).drop w
  | 0, _, _ => by simp
  | w + 1, [], ss => by simp [decs]
  | w + 1, _ :: cs, [] => by
    cases cs <;> simp [decs] <;> split <;> simp_all [decs]
  | w + 1, c :: cs, s :: ss => by simp [decs, decs_drop w cs ss]
theorem decs_set : ∀ (w : Nat) (c : Cd) (cs : List Cd) (ss : List Int), w < ss.length → decs (cs.set w c) ss = (decs cs ss).set w (Cd.at c (ss.getD w 0))
  | _, _, [], ss, _ => by cases ss <;> simp [decs]
  | _, _, _ :: _, [], h => by simp at h
  | 0, c, x :: cs, s :: ss, _ => by simp [decs]
  | w + 1, c, x :: cs, s :: ss, h => by
    have := decs_set w c cs ss (by simpa using h)
    simp only [List.set_cons_succ, decs, List.getD_cons_succ, this]
theorem decs_getD : ∀ (w : Nat) (cs : List Cd) (ss : List Int), cs.length = ss.length → w < cs.length → (decs cs ss).getD w 0 = Cd.at (cs.getD w (true, 0)) (ss.getD w 0)
  | _, [], _, _, h => by simp at h
  | _, _ :: _, [], h, _ => by simp at h
  | 0, _ :: _, _ :: _, _, _ => by simp [decs]
  | w + 1, x :: cs, s :: ss, h, h2 => by
    have := decs_getD w cs ss (by simpa using h) (by simpa using h2)
    simp only [decs, List.getD_cons_succ, this]
theorem acar_len (c : Int) : ∀ (cs : List Cd) (b : Int), (acar c cs b).length = cs.length
  | [], _ => rfl
  | x :: r, b => by
    unfold acar
    split
    · rfl
    · split
      · split <;> simp [acar_len c r]
      · split <;> simp [acar_len c r]
theorem acar_zero (c : Int) (cs : List Cd) : acar c cs 0 = cs := by
  cases cs with
  | nil => rfl
  | cons x r => simp [acar]
theorem acar_ok {c k m : Int} (hc : c = 1 ∨ c = -1 ∨ c = 0) (hk : 0 ≤ k) : ∀ {cs : List Cd} {ss : List Int} {b : Int}, cs.length = ss.length → InC k cs → (∀ s ∈ ss, k + m < s) → -m ≤ b → b ≤ m →
    decs (acar c cs b) ss = carry c (decs cs ss) ss b ∧ InC (k + m) (acar c cs b)
  | [], [], b, _, _, _, _, _ => ⟨rfl, fun x hx => by cases hx⟩
  | [], _ :: _, _, h, _, _, _, _ => by simp at h
  | _ :: _, [], _, h, _, _, _, _ => by simp at h
  | (lo, p) :: cs, s :: ss, b, hl, hi, hs, b1, b2 => by
    have hl' : cs.length = ss.length := by simpa using hl
    have hi' : InC k cs := fun x hx => hi x (List.mem_cons_of_mem _ hx)
    have hs' : ∀ x ∈ ss, k + m < x := fun x hx => hs x (List.mem_cons_of_mem _ hx)
    have h0 := hs s List.mem_cons_self
    obtain ⟨p0, p1⟩ := hi (lo, p) List.mem_cons_self
    dsimp only at p0 p1
    by_cases hb : b = 0
    · subst hb
      refine ⟨?_, ?_⟩
      · rw [acar_zero]
        simp [decs, carry]
      · rw [acar_zero]
        exact hi.mono (by omega)
    · have m1 : 1 ≤ m := by omega
      have go : ∀ q : Int, (q = 1 ∨ q = -1 ∨ q = 0) → decs (acar c cs (q * c)) ss = carry c (decs cs ss) ss (q * c) ∧ InC (k + m) (acar c cs (q * c)) := fun q hq => by
        refine acar_ok hc hk hl' hi' hs' ?_ ?_ <;> rcases hq with h | h | h <;> rcases hc with h3 | h3 | h3 <;> rw [h, h3] <;> omega
      have cons_in : ∀ {x : Cd} {r : List Cd}, 0 ≤ x.2 → x.2 ≤ k + m → InC (k + m) r → InC (k + m) (x :: r) := fun {x r} h1 h2 h3 y hy => by
        rcases List.mem_cons.mp hy with e | e
        · rw [e]
          exact ⟨h1, h2⟩
        · exact h3 y e
      cases lo with
      | true =>
        by_cases hn : p + b < 0
        · have e : acar c ((true, p) :: cs) b = (false, -(p + b) - 1) :: acar c cs (-1 * c) := by
            simp only [acar]
            rw [if_neg hb, if_pos trivial, if_pos hn]
          obtain ⟨g1, g2⟩ := go (-1) (.inr (.inl rfl))
          refine ⟨?_, ?_⟩
          · rw [e]
            simp only [decs, carry, Cd.at]
            rw [if_neg hb, g1, if_neg (by decide), if_pos trivial, if_neg (by omega), if_pos hn]
            congr 1
            omega
          · rw [e]
            exact cons_in (by show 0 ≤ -(p + b) - 1; omega) (by show -(p + b) - 1 ≤ k + m; omega) g2
        · have e : acar c ((true, p) :: cs) b = (true, p + b) :: acar c cs (0 * c) := by
            simp only [acar]
            rw [if_neg hb, if_pos trivial, if_neg hn]
          obtain ⟨g1, g2⟩ := go 0 (.inr (.inr rfl))
          refine ⟨?_, ?_⟩
          · rw [e]
            simp only [decs, carry, Cd.at]
            rw [if_neg hb, g1, if_pos trivial, if_pos trivial, if_neg (by omega), if_neg hn]
            congr 1
            omega
          · rw [e]
            exact cons_in (by show 0 ≤ p + b; omega) (by show p + b ≤ k + m; omega) g2
      | false =>
        by_cases hn : p < b
        · have e : acar c ((false, p) :: cs) b = (true, b - 1 - p) :: acar c cs (1 * c) := by
            simp only [acar]
            rw [if_neg hb, if_neg (by decide), if_pos hn]
          obtain ⟨g1, g2⟩ := go 1 (.inl rfl)
          refine ⟨?_, ?_⟩
          · rw [e]
            simp only [decs, carry, Cd.at]
            rw [if_neg hb, g1, if_pos trivial, if_neg (by decide), if_pos (by omega)]
            congr 1
            omega
          · rw [e]
            exact cons_in (by show 0 ≤ b - 1 - p; omega) (by show b - 1 - p ≤ k + m; omega) g2
        · have e : acar c ((false, p) :: cs) b = (false, p - b) :: acar c cs (0 * c) := by
            simp only [acar]
            rw [if_neg hb, if_neg (by decide), if_neg hn]
          obtain ⟨g1, g2⟩ := go 0 (.inr (.inr rfl))
          refine ⟨?_, ?_⟩
          · rw [e]
            simp only [decs, carry, Cd.at]
            rw [if_neg hb, g1, if_neg (by decide), if_neg (by decide), if_neg (by omega), if_neg (by omega)]
            congr 1
            omega
          · rw [e]
            exact cons_in (by show 0 ≤ p - b; omega) (by show p - b ≤ k + m; omega) g2
theorem wd_c1 (k : Wd) : k.c = 1 ∨ k.c = -1 ∨ k.c = 0 := by cases k <;> simp [Wd.c]
theorem aPl_len (cs : List Cd) (p : Pl) : (aPl cs p).length = cs.length := by
  cases p with
  | turn w b k => simp [aPl, acar_len]; omega
  | set w p => simp [aPl]
theorem aPls_len : ∀ (l : List Pl) (cs : List Cd), (aPls cs l).length = cs.length
  | [], _ => rfl
  | p :: r, cs => (aPls_len r (aPl cs p)).trans (aPl_len cs p)
theorem aSt_len (cs : List Cd) (p : Stp) : (aSt cs p).length = cs.length := by
  cases p with
  | pl p => exact aPl_len _ _
  | alike a b f g => exact aPls_len _ _
theorem aRun_len : ∀ (l : List Stp) (cs : List Cd), (aRun cs l).length = cs.length
  | [], _ => rfl
  | p :: r, cs => (aRun_len r (aSt cs p)).trans (aSt_len cs p)
theorem aPl_ok {R k : Int} {n : Nat} {cs : List Cd} {ss : List Int} {p : Pl} (hf : Far R ss) (hn : ss.length = n) (hl : cs.length = ss.length) (hi : InC k cs) (h1 : 1 ≤ k) (hr : k + p.rw ≤ R) (ho : p.ok n) :
    decs (aPl cs p) ss = plZ ss (decs cs ss) p ∧ InC (k + p.rw) (aPl cs p) := by
  cases p with
  | turn w b kd =>
    have hrw : ((Pl.turn w b kd).rw : Int) = b.natAbs := rfl
    rw [hrw] at hr ⊢
    have hs : ∀ s ∈ ss.drop w, k + b.natAbs < s := fun s q => by
      have := hf.1 s (List.mem_of_mem_drop q)
      omega
    obtain ⟨g1, g2⟩ := acar_ok (wd_c1 kd) (by omega) (m := b.natAbs) (b := b) (cs := cs.drop w) (ss := ss.drop w) (by simp [hl]) (fun x hx => hi x (List.mem_of_mem_drop hx)) hs (by omega) (by omega)
    refine ⟨?_, ?_⟩
    · show decs (cs.take w ++ acar kd.c (cs.drop w) b) ss = turnZ ss (decs cs ss) w b kd.c
      unfold turnZ
      conv => lhs; rw [← List.take_append_drop w ss]
      rw [decs_app (by simp [hl]), decs_take, g1, decs_drop]
    · intro x hx
      rcases List.mem_append.mp hx with q | q
      · have := hi x (List.mem_of_mem_take q)
        exact ⟨this.1, by omega⟩
      · exact g2 x q
  | set w p =>
    have hrw : ((Pl.set w p).rw : Int) = 0 := rfl
    rw [hrw] at hr ⊢
    obtain ⟨o1, o2, o3⟩ := ho
    refine ⟨?_, ?_⟩
    · show decs (cs.set w _) ss = (decs cs ss).set w _
      rw [decs_set _ _ _ _ (by omega)]
      congr 1
      by_cases hp : 0 ≤ p
      · rw [if_pos hp, if_pos hp]
        rfl
      · rw [if_neg hp, if_neg hp]
        show _ - 1 - (-1 - p) = _ + p
        omega
    · intro x hx
      rcases List.mem_or_eq_of_mem_set hx with q | q
      · have := hi x q
        exact ⟨this.1, by omega⟩
      · subst q
        split <;> dsimp only <;> omega
theorem aPls_ok {R : Int} {n : Nat} {ss : List Int} (hf : Far R ss) (hn : ss.length = n) : ∀ {l : List Pl} {k : Int} {cs : List Cd}, cs.length = ss.length → InC k cs → 1 ≤ k → k + ((l.map Pl.rw).sum : Nat) ≤ R → (∀ p ∈ l, p.ok n) →
    decs (aPls cs l) ss = plsZ ss (decs cs ss) l ∧ InC (k + ((l.map Pl.rw).sum : Nat)) (aPls cs l)
  | [], k, cs, hl, hi, h1, hr, ho => ⟨rfl, hi.mono (by simp)⟩
  | p :: r, k, cs, hl, hi, h1, hr, ho => by
    have e : (((p :: r).map Pl.rw).sum : Nat) = p.rw + (r.map Pl.rw).sum := by simp
    rw [e] at hr ⊢
    obtain ⟨g1, g2⟩ := aPl_ok hf hn hl hi h1 (by omega) (ho p List.mem_cons_self)
    obtain ⟨g3, g4⟩ := aPls_ok hf hn (l := r) (k := k + p.rw) (cs := aPl cs p) (by rw [aPl_len]; exact hl) g2 (by omega) (by omega) fun q hq => ho q (List.mem_cons_of_mem _ hq)
    refine ⟨?_, ?_⟩
    · show decs (aPls (aPl cs p) r) ss = plsZ ss (plZ ss (decs cs ss) p) r
      rw [g3, g1]
    · exact g4.mono (by omega)
theorem far_get {R : Int} {ss : List Int} (hf : Far R ss) {a b : Nat} (h : a < b) (hb : b < ss.length) : R + 1 ≤ ss.getD a 0 - ss.getD b 0 ∨ R + 1 ≤ ss.getD b 0 - ss.getD a 0 := by
  have := (List.pairwise_iff_getElem.mp hf.2) a b (by omega) hb h
  rw [List.getD_eq_getElem?_getD, List.getD_eq_getElem?_getD, List.getElem?_eq_getElem (by omega), List.getElem?_eq_getElem hb]
  exact this
theorem far_ge {R : Int} {ss : List Int} (hf : Far R ss) {a : Nat} (h : a < ss.length) : 3 * R + 1 ≤ ss.getD a 0 := by
  rw [List.getD_eq_getElem?_getD, List.getElem?_eq_getElem h]
  exact hf.1 _ (List.getElem_mem h)
theorem inC_get {k : Int} {cs : List Cd} (hi : InC k cs) {a : Nat} (h : a < cs.length) : 0 ≤ (cs.getD a (true, 0)).2 ∧ (cs.getD a (true, 0)).2 ≤ k := by
  rw [List.getD_eq_getElem?_getD, List.getElem?_eq_getElem h]
  exact hi _ (List.getElem_mem h)
theorem same_ok {R : Int} {cs : List Cd} {ss : List Int} (hf : Far R ss) (h1 : 1 ≤ R) (hl : cs.length = ss.length) (hi : InC R cs) {a b : Nat} (h : a < b) (hb : b < ss.length) :
    sameC (cs.getD a (true, 0)) (cs.getD b (true, 0)) = true ↔ (decs cs ss).getD a 0 = (decs cs ss).getD b 0 := by
  rw [decs_getD a cs ss hl (by omega), decs_getD b cs ss hl (by omega)]
  have f1 := far_get hf h hb
  have f2 := far_ge hf hb
  have f3 := far_ge hf (show a < ss.length by omega)
  have i1 := inC_get hi (show a < cs.length by omega)
  have i2 := inC_get hi (show b < cs.length by omega)
  generalize cs.getD a (true, 0) = x at *
  generalize cs.getD b (true, 0) = y at *
  obtain ⟨x1, x2⟩ := x
  obtain ⟨y1, y2⟩ := y
  dsimp only at i1 i2
  cases x1 <;> cases y1 <;> simp only [sameC, Cd.at, Bool.true_and, Bool.false_and, Bool.and_false, decide_eq_true_eq, if_true, Bool.false_eq_true, if_false, false_iff] <;> omega
theorem aSt_ok {R k : Int} {n : Nat} {cs : List Cd} {ss : List Int} {p : Stp} (hf : Far R ss) (hn : ss.length = n) (hl : cs.length = ss.length) (hi : InC k cs) (h1 : 1 ≤ k) (hr : k + p.rw ≤ R) (ho : p.ok n) :
    decs (aSt cs p) ss = stZ ss (decs cs ss) p ∧ InC (k + p.rw) (aSt cs p) := by
  cases p with
  | pl p => exact aPl_ok hf hn hl hi h1 hr ho
  | alike a b f g =>
    obtain ⟨o1, o2, o3, o4⟩ := ho
    have hrw : ((Stp.alike a b f g).rw : Int) = ((f.map Pl.rw).sum : Nat) + ((g.map Pl.rw).sum : Nat) := by simp [Stp.rw]
    rw [hrw] at hr ⊢
    have hs := same_ok hf (by omega) hl (hi.mono (show k ≤ R by omega)) o1 (by omega)
    show decs (aPls cs (if _ = true then f else g)) ss = plsZ ss (decs cs ss) (if _ then f else g) ∧ InC _ (aPls cs (if _ = true then f else g))
    by_cases he : sameC (cs.getD a (true, 0)) (cs.getD b (true, 0)) = true
    · rw [if_pos he, if_pos (hs.mp he)]
      obtain ⟨g1, g2⟩ := aPls_ok hf hn (l := f) hl hi h1 (by omega) o3
      exact ⟨g1, g2.mono (by omega)⟩
    · rw [if_neg he, if_neg fun z => he (hs.mpr z)]
      obtain ⟨g1, g2⟩ := aPls_ok hf hn (l := g) hl hi h1 (by omega) o4
      exact ⟨g1, g2.mono (by omega)⟩
theorem aRun_ok {R : Int} {n : Nat} {ss : List Int} (hf : Far R ss) (hn : ss.length = n) : ∀ {l : List Stp} {k : Int} {cs : List Cd}, cs.length = ss.length → InC k cs → 1 ≤ k → k + ((l.map Stp.rw).sum : Nat) ≤ R → StepsOk n l →
    decs (aRun cs l) ss = runZ ss (decs cs ss) l ∧ InC (k + ((l.map Stp.rw).sum : Nat)) (aRun cs l)
  | [], k, cs, hl, hi, h1, hr, ho => ⟨rfl, hi.mono (by simp)⟩
  | p :: r, k, cs, hl, hi, h1, hr, ho => by
    have e : (((p :: r).map Stp.rw).sum : Nat) = p.rw + (r.map Stp.rw).sum := by simp
    rw [e] at hr ⊢
    obtain ⟨g1, g2⟩ := aSt_ok hf hn hl hi h1 (by omega) (ho p List.mem_cons_self)
    obtain ⟨g3, g4⟩ := aRun_ok hf hn (l := r) (k := k + p.rw) (cs := aSt cs p) (by rw [aSt_len]; exact hl) g2 (by omega) (by omega) fun q hq => ho q (List.mem_cons_of_mem _ hq)
    refine ⟨?_, ?_⟩
    · show decs (aRun (aSt cs p) r) ss = runZ ss (stZ ss (decs cs ss) p) r
      rw [g3, g1]
    · exact g4.mono (by omega)
def cd0 (n : Nat) : List Cd := List.replicate n (true, 0)
theorem decs_cd0 : ∀ (ss : List Int), decs (cd0 ss.length) ss = zeros ss.length
  | [] => rfl
  | s :: ss => by
    show Cd.at (true, 0) s :: decs (cd0 ss.length) ss = 0 :: zeros ss.length
    rw [decs_cd0 ss]
    rfl
/-- what is told -/
def codZ (l : List Stp) (n : Nat) : List Cd := aRun (cd0 n) l
theorem codZ_len (l : List Stp) (n : Nat) : (codZ l n).length = n := by rw [codZ, aRun_len, cd0, List.length_replicate]
theorem cod_ok {n : Nat} {l : List Stp} {ss : List Int} (ho : StepsOk n l) (hn : ss.length = n) (hf : Far (reachZ l : Nat) ss) : decs (codZ l n) ss = shownZ ss l ∧ InC (reachZ l : Nat) (codZ l n) := by
  have h0 : InC 1 (cd0 n) := fun c hc => by
    rw [(List.mem_replicate.mp hc).2]
    decide
  obtain ⟨g1, g2⟩ := aRun_ok hf hn (l := l) (k := 1) (cs := cd0 n) (by rw [cd0, List.length_replicate, hn]) h0 (by omega) (by show 1 + _ ≤ ((1 + _ : Nat) : Int); omega) ho
  refine ⟨?_, g2.mono (by show 1 + _ ≤ ((1 + _ : Nat) : Int); omega)⟩
  show decs (aRun (cd0 n) l) ss = runZ ss (zeros ss.length) l
  rw [g1, ← hn, decs_cd0]
/-- the sizes at which the program looks -/
def setS (R n : Nat) : List Int := (List.range n).map fun (w : Nat) => 3 * (R : Int) + 1 + (w : Int) * ((R : Int) + 1)
theorem setS_len (R n : Nat) : (setS R n).length = n := by simp [setS]
theorem setS_far (R n : Nat) : Far R (setS R n) := by
  refine ⟨fun s hs => ?_, ?_⟩
  · obtain ⟨w, _, rfl⟩ := List.mem_map.mp hs
    have : (0 : Int) ≤ (w : Int) * ((R : Int) + 1) := Int.mul_nonneg (by omega) (by omega)
    omega
  · refine List.pairwise_map.mpr ((List.pairwise_lt_range (n := n)).imp fun {a b} h => .inr ?_)
    obtain ⟨d, rfl⟩ : ∃ d, b = a + d + 1 := ⟨b - a - 1, by omega⟩
    have e : (((a + d + 1 : Nat) : Int)) * ((R : Int) + 1) = (a : Int) * ((R : Int) + 1) + (d : Int) * ((R : Int) + 1) + ((R : Int) + 1) := by
      rw [show ((a + d + 1 : Nat) : Int) = (a : Int) + (d : Int) + 1 by omega, Int.add_mul, Int.add_mul, Int.one_mul]
    have : (0 : Int) ≤ (d : Int) * ((R : Int) + 1) := Int.mul_nonneg (by omega) (by omega)
    omega
def toldC (R : Nat) (p s : Int) : Cd := if p ≤ R then (true, p) else (false, s - 1 - p)
theorem told_back {R : Nat} (h1 : 1 ≤ R) : ∀ {cs : List Cd} {ss : List Int}, cs.length = ss.length → InC R cs → (∀ s ∈ ss, 3 * (R : Int) + 1 ≤ s) → List.zipWith (toldC R) (decs cs ss) ss = cs
  | [], [], _, _, _ => rfl
  | [], _ :: _, h, _, _ => by simp at h
  | _ :: _, [], h, _, _ => by simp at h
  | (lo, p) :: cs, s :: ss, h, hi, hs => by
    have i := hi (lo, p) List.mem_cons_self
    have s1 := hs s List.mem_cons_self
    dsimp only at i
    show toldC R (Cd.at (lo, p) s) s :: List.zipWith (toldC R) (decs cs ss) ss = _
    rw [told_back h1 (by simpa using h) (fun x hx => hi x (List.mem_cons_of_mem _ hx)) fun x hx => hs x (List.mem_cons_of_mem _ hx)]
    congr 1
    cases lo with
    | true =>
      show toldC R p s = _
      unfold toldC
      rw [if_pos (by omega)]
    | false =>
      show toldC R (s - 1 - p) s = _
      unfold toldC
      rw [if_neg (by omega)]
      congr 1
      omega
/-- what the program tells -/
def setZ (l : List Stp) (n : Nat) : List Cd := List.zipWith (toldC (reachZ l)) (shownZ (setS (reachZ l) n) l) (setS (reachZ l) n)
theorem reach_pos (l : List Stp) : 1 ≤ reachZ l := by
  unfold reachZ
  omega
theorem setZ_cod {n : Nat} {l : List Stp} (ho : StepsOk n l) : setZ l n = codZ l n := by
  obtain ⟨g1, g2⟩ := cod_ok ho (setS_len (reachZ l) n) (setS_far (reachZ l) n)
  unfold setZ
  rw [← g1]
  exact told_back (reach_pos l) (by rw [codZ_len, setS_len]) g2 (setS_far (reachZ l) n).1
theorem setZ_ok {n : Nat} {l : List Stp} {ss : List Int} (ho : StepsOk n l) (hn : ss.length = n) (hf : Far (reachZ l : Nat) ss) : decs (setZ l n) ss = shownZ ss l := by
  rw [setZ_cod ho]
  exact (cod_ok ho hn hf).1
theorem setZ_in {n : Nat} {l : List Stp} (ho : StepsOk n l) : InC (reachZ l : Nat) (setZ l n) := by
  rw [setZ_cod ho]
  exact (cod_ok ho (setS_len (reachZ l) n) (setS_far (reachZ l) n)).2
theorem setZ_len {n : Nat} {l : List Stp} (ho : StepsOk n l) : (setZ l n).length = n := by rw [setZ_cod ho, codZ_len]
theorem Far.perm {R : Int} {a b : List Int} (h : Far R a) (p : a.Perm b) : Far R b :=
  ⟨fun s hs => h.1 s (p.mem_iff.mpr hs), (p.pairwise_iff fun {x y} q => q.symm).mp h.2⟩
--END
def Cd.dat (c : Cd) : PyData := .tuple [.str (if c.1 = true then "low" else "high"), .int c.2]
def dCds (l : List Cd) : PyData := .tuple (l.map Cd.dat)
def spSettled (K : PySem.W.Frag) (C : Addr) : Sp := fun vs H Q _ => ∃ (a : Addr) (n : Nat) (l : List Stp), vs = [.ref a] ∧ Scr K C H a n l ∧ ∀ (v : V) (H' : Hp), Kp [] H H' → Td K H' v (dCds (setZ l n)) → Q v H'
theorem td_cd {K : PySem.W.Frag} {H : Hp} {v : V} {c : Cd} (h : Td K H v c.dat) : ∃ a, v = .ref a ∧ SqT K H a [.str (if c.1 = true then "low" else "high"), .int c.2] := by
  obtain ⟨a, xs, rfl, q, t⟩ := h.inv
  cases t with
  | cons h1 t => cases t with
    | cons h2 t =>
      cases t
      rw [h1.strInv, h2.intInv] at q
      exact ⟨a, rfl, q⟩
end WZ

/-! t[::-1] of a tuple -/
namespace WZ
open PySem PySem.Spec PyProof.Rows L2 StX
theorem rv_pick (xs : Array Value) : ((List.range xs.size).filterMap fun (m : Nat) => xs[(((xs.size : Int) - 1) + (m : Int) * -1).toNat]?) = xs.toList.reverse := by
  have e : (List.range xs.size).filterMap (fun (m : Nat) => xs[(((xs.size : Int) - 1) + (m : Int) * -1).toNat]?) = ((List.range xs.size).map fun k => xs.size - 1 - k).filterMap (xs[·]?) := by
    rw [List.filterMap_map]
    congr 1
    funext m
    have : (((xs.size : Int) - 1) + (m : Int) * -1).toNat = xs.size - 1 - m := by omega
    rw [this]
    rfl
  rw [e, PySem.W.krv_range, List.filterMap_reverse, PySem.W.krv_all]
section
variable {prog : Program} {w : World} {A : Around} {E : Value → Shared → Prop} {s : Shared}
theorem rv_applied {sl : Addr} {vs : Value} {n : Nat} {Q : Int × Int × Nat → Shared → Prop} (hs : s.heap.IsSliceOf sl .none .none vs) (ps : IsPart vs (some (-1)))
    (h : Q ((n : Int) - 1, -1, n) s) : wpAny (model prog w) A (Builtin.Slice.sliceApplied (.ref sl) (pure (n : Int))) Q E s := by
  obtain ⟨os, hos, hcs, hds⟩ := id hs
  unfold Builtin.Slice.sliceApplied Builtin.Slice.sliceFields
  refine wpAny_bind (wpAny_bind (wpAny_field hos hds (x := .none) rfl (wpAny_bind (wpAny_field hos hds (x := .none) rfl (wpAny_bind (wpAny_field hos hds (x := vs) rfl (wpAny_pure ?_)))))))
  refine wpAny_bind (HT.slicePart_ ps ?_)
  show wpAny _ _ (if ((-1 : Int) == 0) = true then _ else _) _ _ s
  rw [if_neg (by decide)]
  refine wpAny_bind (HT.slicePart_ .none (wpAny_bind (HT.slicePart_ .none (wpAny_bind (wpAny_pure ?_)))))
  show wpAny _ _ (pure (((n : Int) - 1), (-1 : Int), Builtin.Slice.slicePlaces ((n : Int) - 1) (-1) (-1))) _ _ s
  have e : Builtin.Slice.slicePlaces ((n : Int) - 1) (-1) (-1) = n := by
    unfold Builtin.Slice.slicePlaces
    rw [if_neg (by decide), show (- -1 : Int) = 1 by decide, Int.ediv_one]
    split <;> omega
  rw [e]
  exact wpAny_pure h
theorem rv_item {t sl : Addr} {items : Array Value} {vs : Value} {Q : Value → Shared → Prop} (ht : IsTup s.heap t items) (hs : s.heap.IsSliceOf sl .none .none vs) (ps : IsPart vs (some (-1)))
    (h : Q (.ref s.heap.objs.size) { s with heap := s.heap.push { cls := .type "tuple", data := .seq items.toList.reverse.toArray } })
    (hsz : items.size ≤ sizeLine) : wpAny (model prog w) A (getItem (.ref t) (.ref sl)) Q E s := by
  have htake : sizeOk (.seq items.toList.reverse.toArray) := by
    show items.toList.reverse.toArray.size ≤ sizeLine
    rw [List.size_toArray, List.length_reverse, Array.length_toList]
    exact hsz
  obtain ⟨os, hos, hcs, hds⟩ := id hs
  have hTs : s.TypeIs (.ref sl) "slice" := ⟨os, hos, hcs⟩
  unfold getItem
  try with_reducible refine wpAny_holding ?_
  first | refine wpAny_bind (wpAny_pure ?_) | skip
  refine wpAny_bind (wpAny_sequenceKey ht.typeIs (by decide) ?_)
  refine wpAny_bind (wpAny_callSpecial?_slot (name := Str.ofString "__getitem__") ht.typeIs PyProof.Rows.slot_tuple_getitem
    (wpAny_call_entry PyProof.Rows.slot_tuple_getitem ht.typeIs entry_tuple_getitem ?_ (args_tuple_getitem _ _)))
  show wpAny _ _ (Builtin.Tuple.tupleItemsOf (.ref t) >>= _) _ _ s
  refine wpAny_bind (tupleItemsOf_ ht ?_)
  refine wpAny_bind (wpAny_typeOf hTs ?_)
  rw [if_pos (by decide)]
  refine wpAny_bind (rv_applied hs ps ?_)
  have hno : ¬ ((((items.size : Int) - 1) == 0 && (-1 : Int) == 1 && items.size == items.size) = true) := by
    intro q
    rw [Bool.and_eq_true, Bool.and_eq_true] at q
    exact absurd q.1.2 (by decide)
  show wpAny _ _ (if (((items.size : Int) - 1) == 0 && (-1 : Int) == 1 && items.size == items.size) = true then _ else _) _ _ s
  rw [if_neg hno, rv_pick]
  first
    | exact wpAny_bind (m := Builtin.Tuple.tupleExact _) (wpAny_newObj_type (wpAny_pure ⟨_, rfl, wpAny_pure h⟩) htake)
    | exact wpAny_bind (m := Builtin.Tuple.tupleExact _) (wpAny_newObj_type (wpAny_bind (wpAny_pure (wpAny_pure ⟨_, rfl, wpAny_pure h⟩))) htake)
    | exact wpAny_bind (wpAny_bind (m := Builtin.Tuple.tupleExact _) (wpAny_newObj_type (wpAny_pure (wpAny_pure ⟨_, rfl, wpAny_pure h⟩)) htake))
    | exact wpAny_bind (wpAny_bind (m := Builtin.Tuple.tupleExact _) (wpAny_newObj_type (wpAny_pure ⟨_, rfl, wpAny_pure h⟩) htake))
end
def xRv (K : PySem.W.Frag) (Q : VK) : VK := fun x H1 => ∃ a xs, x = .ref a ∧ SqT K H1 a xs ∧ ∀ p, H1 p = none → Q (.ref p) (upd H1 p (.tup xs.reverse))
def tRevT (K : PySem.W.Frag) (te : TE) : TE := fun σ H Q => te σ H (xRv K Q)
theorem g_revT {K : PySem.W.Frag} {te : TE} {σ : L2.St} {H : Hp} {Q : VK} (k : te σ H (xRv K Q)) : tRevT K te σ H Q := k
theorem g_xRv {K : PySem.W.Frag} {H : Hp} {Q : VK} {a : Addr} {xs : List V} (h : SqT K H a xs) (k : ∀ p H2, H p = none → Kp [] H H2 → H2 p = some (.tup xs.reverse) → Q (.ref p) H2) : xRv K Q (.ref a) H := ⟨a, xs, rfl, h, g_newT k⟩
section
variable {X : Cx}
theorem pe_revT' {e : Expr} {te : TE} {k : Nat} {p1 p2 p3 pos : Pos} (he : PE X e te) : PE X (.Subscript e (.Slice none none (some (.UnaryOp .USub (.Constant (.int 1) k p1) p2)) p3) pos) (tRevT X.K te) := by
  refine ⟨fun pins s σ H Q I h => ?_⟩
  refine Subscript_ (thn (he.run pins s σ H _ I h) fun v s1 ⟨x, H1, I1, r1, q1⟩ => ?_)
  obtain ⟨a, xs, ex, hx, q⟩ := q1
  subst ex
  cases r1
  have hst : PO X (some (.UnaryOp .USub (.Constant (.int 1) k p1) p2)) (tPart (tUn (rU fun i => .int (-i)) (tC (.int 1)))) := po_some (pe_un un_neg pe_int)
  refine wpAny_Slice (thn (po_none.run pins s1 σ H1 (fun o H2 => o = none ∧ H2 = H1) I1 ⟨rfl, rfl⟩) fun vl s2 ⟨l, H2, I2, pl, el, e2⟩ => ?_)
  subst el e2
  refine thn (po_none.run pins s2 σ H2 (fun o H3 => o = none ∧ H3 = H2) I2 ⟨rfl, rfl⟩) fun vu s3 ⟨u, H3, I3, pu, eu, e3⟩ => ?_
  subst eu e3
  refine thn (hst.run pins s3 σ H3 (fun o H4 => o = some (-1) ∧ H4 = H3) I3 ⟨1, rfl, -1, rfl, rfl, rfl⟩) fun vs s4 ⟨o, H4, I4, ps, eo, e4⟩ => ?_
  subst eo e4
  cases pl
  cases pu
  have I5 : Inv X pins σ H4 { s4 with heap := s4.heap.push { cls := .type "slice", data := .fields #[.none, .none, vs] } } := I4.kept (t' := s4.toks) fun b ob q => Heap.get?_push_of_some _ q
  obtain ⟨its, r, ht, hz⟩ := I5.tuple hx
  have hlen := r.length
  show wpAny (model X.prog X.w) X.A (subscriptTail e (.Slice none none (some (.UnaryOp .USub (.Constant (.int 1) k p1) p2)) p3) (.ref a) (.ref s4.heap.objs.size)) (EP X pins σ Q) X.xe { s4 with heap := s4.heap.push { cls := .type "slice", data := .fields #[.none, .none, vs] } }
  refine tail_any (ops := [.ref a, .ref s4.heap.objs.size]) ht.typeIs (PyProof.Rows.slot_tuple_getitem.lookup) ?_ (by with_unfolding_all rfl)
  refine rv_item ht (Heap.IsSliceOf.new _ .none .none vs) ps ?_ (by rw [List.size_toArray]; omega)
  refine ⟨.ref _, _, I5.laid (t' := s4.toks) (o := .tup xs.reverse) (fun b ob q => Heap.get?_push_of_some _ q) (Nat.le_refl _) ?_, rfl, q _ (I5.hok.fresh (Nat.le_refl _))⟩
  exact ⟨by rw [List.length_reverse]; exact hz, _, r.reverse, IsTup.new _ _⟩
theorem pe_revTK {K : PySem.W.Frag} {e : Expr} {te : TE} {k : Nat} {p1 p2 p3 pos : Pos} (he : PE X e te) (h : X.K = K := by rfl) : PE X (.Subscript e (.Slice none none (some (.UnaryOp .USub (.Constant (.int 1) k p1) p2)) p3) pos) (tRevT K te) := h ▸ pe_revT' he
end
end WZ

/-! list(zip(t, u)) of two tuples -/
namespace WZ
open PySem PySem.Spec PyProof.Rows L2 StX
section
variable {prog : Program} {w : World} {A : Around} {E : Value → Shared → Prop} {s : Shared} {za tI tO T ia ib la lb : Addr} {f : Bool} {oT : Obj} {ka kb : Nat} {xs ys : Array Value}
theorem heldT_item {x y : Value} {Q : Value → Shared → Prop} (D : ZipApart za tI tO ia ib la lb)
    (gz : IsZipHeld s.heap za tI tO T f) (gT : s.heap.get? T = some oT) (gI : IsPair s.heap tI (.ref ia) (.ref ib))
    (ga : s.heap.IsTupleIter ia la ka) (gb : s.heap.IsTupleIter ib lb kb) (gl : s.heap.IsTuple la xs) (gm : s.heap.IsTuple lb ys) (hx : xs[ka]? = some x) (hy : ys[kb]? = some y)
    (hQ : ∀ h', IsZipHeld h' za tI tO T true → h'.IsTupleIter ia la (ka + 1) → h'.IsTupleIter ib lb (kb + 1) → IsPair h' s.heap.objs.size x y → h'.objs.size = s.heap.objs.size + 1 →
      (∀ c o, c ≠ za → c ≠ ia → c ≠ ib → s.heap.get? c = some o → h'.get? c = some o) → Q (.ref s.heap.objs.size) { s with heap := h' }) :
    wpAny (model prog w) A (Builtin.«zip.__next__» ⟨[.ref za], []⟩) (fun r t => ∃ v, r = .done (.ret v) ∧ Q v t) E s := by
  show wpAny _ _ (field (.ref za) 2 >>= _) _ _ _
  refine wpAny_bind (wpAny_field gz rfl (x := .bool false) rfl ?_)
  show wpAny _ _ (field (.ref za) 3 >>= _) _ _ _
  refine wpAny_bind (wpAny_field gz rfl (x := .ref tI) rfl ?_)
  refine wpAny_bind (wpAny_seqItems gI rfl ?_)
  show wpAny _ _ (Builtin.SmallTypes.ownedTupleIsFree (.ref za) >>= _) _ _ _
  refine wpAny_bind (wpAny_tupleHeld_zip gz gT fun u1 z1 s1 => ?_)
  simp only [if_false, Bool.false_eq_true]
  refine wpAny_bind ?_
  rw [← Array.forIn_toList]
  simp only [List.forIn_nil, List.forIn_cons]
  refine wpAny_bind (wpAny_bind (wpAny_holding (show wpAny _ _ (Builtin.SmallTypes.nextOf (.ref ia) >>= _) _ _ _ from ?_)))
  refine wpAny_bind (RZ.nextOf_tuple_item (s := { s with heap := u1 }) (ga.extBut s1.extBut D.i1z) (gl.extBut s1.extBut D.l1z) hx fun u2 a2 s2 => wpAny_pure (wpAny_pure ?_))
  refine wpAny_bind (wpAny_bind (wpAny_holding (show wpAny _ _ (Builtin.SmallTypes.nextOf (.ref ib) >>= _) _ _ _ from ?_)))
  refine wpAny_bind (RZ.nextOf_tuple_item (s := { s with heap := u2 }) ((gb.extBut s1.extBut D.i2z).extBut s2.extBut D.i12.symm) ((gm.extBut s1.extBut D.l2z).extBut s2.extBut D.l2i1) hy fun u3 b3 s3 => wpAny_pure (wpAny_pure (wpAny_pure ?_)))
  refine wpAny_bind (show wpAny _ _ (newTuple [x, y]) _ _ _ from wpAny_newTuple ?_)
  have ez : u3.objs.size = s.heap.objs.size := by rw [s3.1, s2.1, s1.1]
  have z3 : IsZipHeld u3 za tI tO T true := s3.extBut _ _ D.i2z.symm (s2.extBut _ _ D.i1z.symm z1)
  have kk : ∀ c o, c ≠ za → c ≠ ia → c ≠ ib → s.heap.get? c = some o → u3.get? c = some o := fun c o n1 n2 n3 e => s3.extBut _ _ n3 (s2.extBut _ _ n2 (s1.extBut _ _ n1 e))
  have a3 : u3.IsTupleIter ia la (ka + 1) := a2.extBut s3.extBut D.i12
  have pr : IsPair (u3.push { cls := .type "tuple", data := .seq #[x, y] }) u3.objs.size x y := Heap.get?_push_size _ rfl
  have sz : (u3.push { cls := .type "tuple", data := .seq #[x, y] }).objs.size = u3.objs.size + 1 := Heap.size_push ..
  refine wpAny_pure ⟨_, rfl, (show Q (.ref u3.objs.size) _ from ?_)⟩
  rw [ez] at pr sz ⊢
  exact hQ _ (Heap.get?_push_of_some _ z3) (a3.at fun o e => Heap.get?_push_of_some _ e) (b3.at fun o e => Heap.get?_push_of_some _ e) pr sz fun c o n1 n2 n3 e => Heap.get?_push_of_some _ (kk c o n1 n2 n3 e)
theorem heldT_end {Q : Fin → Shared → Prop} (hh : A.handled = none) (D : ZipApart za tI tO ia ib la lb)
    (gz : IsZipHeld s.heap za tI tO T f) (gT : s.heap.get? T = some oT) (gI : IsPair s.heap tI (.ref ia) (.ref ib))
    (ga : s.heap.IsTupleIter ia la ka) (gl : s.heap.IsTuple la xs) (hx : xs[ka]? = none)
    (hE : ∀ h' e, (∀ c o, c ≠ za → c ≠ ia → c ≠ ib → s.heap.get? c = some o → h'.get? c = some o) → (∃ o, h'.get? e = some o ∧ o.cls = .type "StopIteration") → E (.ref e) { s with heap := h' }) :
    wpAny (model prog w) A (Builtin.«zip.__next__» ⟨[.ref za], []⟩) Q E s := by
  show wpAny _ _ (field (.ref za) 2 >>= _) _ _ _
  refine wpAny_bind (wpAny_field gz rfl (x := .bool false) rfl ?_)
  show wpAny _ _ (field (.ref za) 3 >>= _) _ _ _
  refine wpAny_bind (wpAny_field gz rfl (x := .ref tI) rfl ?_)
  refine wpAny_bind (wpAny_seqItems gI rfl ?_)
  show wpAny _ _ (Builtin.SmallTypes.ownedTupleIsFree (.ref za) >>= _) _ _ _
  refine wpAny_bind (wpAny_tupleHeld_zip gz gT fun u1 z1 s1 => ?_)
  simp only [if_false, Bool.false_eq_true]
  refine wpAny_bind ?_
  rw [← Array.forIn_toList]
  simp only [List.forIn_nil, List.forIn_cons]
  refine wpAny_bind (wpAny_bind (wpAny_holding (show wpAny _ _ (Builtin.SmallTypes.nextOf (.ref ia) >>= _) _ _ _ from ?_)))
  exact wpAny_bind (RZ.nextOf_tuple_end (s := { s with heap := u1 }) hh (ga.extBut s1.extBut D.i1z) (gl.extBut s1.extBut D.l1z) hx fun u2 e s2 he => hE u2 e (fun c o n1 n2 _ x => s2 _ _ n2 (s1.extBut _ _ n1 x)) he)
theorem pyNext_heldT {x y : Value} {Q : Option Value → Shared → Prop} (D : ZipApart za tI tO ia ib la lb)
    (gz : IsZipHeld s.heap za tI tO T f) (gT : s.heap.get? T = some oT) (gI : IsPair s.heap tI (.ref ia) (.ref ib))
    (ga : s.heap.IsTupleIter ia la ka) (gb : s.heap.IsTupleIter ib lb kb) (gl : s.heap.IsTuple la xs) (gm : s.heap.IsTuple lb ys) (hx : xs[ka]? = some x) (hy : ys[kb]? = some y)
    (hQ : ∀ h', IsZipHeld h' za tI tO T true → h'.IsTupleIter ia la (ka + 1) → h'.IsTupleIter ib lb (kb + 1) → IsPair h' s.heap.objs.size x y → h'.objs.size = s.heap.objs.size + 1 →
      (∀ c o, c ≠ za → c ≠ ia → c ≠ ib → s.heap.get? c = some o → h'.get? c = some o) → Q (some (.ref s.heap.objs.size)) { s with heap := h' }) : wpAny (model prog w) A (pyNext (.ref za)) Q E s := by
  have ty : s.TypeIs (.ref za) "zip" := ⟨_, gz, rfl⟩
  unfold pyNext
  exact wpAny_bind (wpAny_attempt (wpAny_callSpecial?_slot (name := Str.ofString "__next__") ty F.slot_zip_next (wpAny_call_entry F.slot_zip_next ty F.entry_zip_next
      (heldT_item D gz gT gI ga gb gl gm hx hy fun h' q1 q2 q3 q4 q5 q6 => wpAny_pure (hQ h' q1 q2 q3 q4 q5 q6)) (F.args_zip_next_1 _))))
theorem pyNext_heldT_end {Q : Option Value → Shared → Prop} (hh : A.handled = none) (D : ZipApart za tI tO ia ib la lb)
    (gz : IsZipHeld s.heap za tI tO T f) (gT : s.heap.get? T = some oT) (gI : IsPair s.heap tI (.ref ia) (.ref ib))
    (ga : s.heap.IsTupleIter ia la ka) (gl : s.heap.IsTuple la xs) (hx : xs[ka]? = none)
    (hQ : ∀ h', (∀ c o, c ≠ za → c ≠ ia → c ≠ ib → s.heap.get? c = some o → h'.get? c = some o) → Q none { s with heap := h' }) : wpAny (model prog w) A (pyNext (.ref za)) Q E s := by
  have ty : s.TypeIs (.ref za) "zip" := ⟨_, gz, rfl⟩
  unfold pyNext
  refine wpAny_bind (wpAny_attempt (wpAny_callSpecial?_slot (name := Str.ofString "__next__") ty F.slot_zip_next (wpAny_call_entry F.slot_zip_next ty F.entry_zip_next (heldT_end hh D gz gT gI ga gl hx fun h' e kk he => ?_) (F.args_zip_next_1 _))))
  obtain ⟨o, g, c⟩ := he
  exact wpAny_bind (wpAny_isInstance (T := "StopIteration") (b := true) ⟨o, g, c⟩ isSubtype_stop (wpAny_pure (hQ _ kk)))
end
theorem zip_nolen : typeLookup (.type "zip") "__len__" = pure none := am_miss_of_fast (by decide +kernel)
theorem zip_nohint : typeLookup (.type "zip") "__length_hint__" = pure none := am_miss_of_fast (by decide +kernel)
theorem hint_zip {M : Model} {A : Around} {E : Value → Shared → Prop} {s : Shared} {za : Addr} {Q : Bool → Shared → Prop} (ty : s.TypeIs (.ref za) "zip") (k : Q true s) : wpAny M A (Builtin.List.listLengthHint (.ref za)) Q E s := by
  unfold Builtin.List.listLengthHint
  refine wpAny_bind (wpAny_specialOf ty zip_nolen ?_)
  refine PySem.W.KFB.if_not rfl (PySem.W.KFB.if_not rfl ?_)
  exact wpAny_bind (wpAny_specialOf ty zip_nohint (wpAny_pure k))
/-- how the zip stands at the turn i -/
def ZSt (q : Addr) (h : Heap) (za tI tO ia ib la lb : Addr) (i : Nat) : Prop := IsPair h tI (.ref ia) (.ref ib) ∧ h.IsTupleIter ia la i ∧ h.IsTupleIter ib lb i ∧
  ((i = 0 ∧ IsZip h za tI tO .none ∧ ∃ x y, IsPair h tO x y) ∨ ∃ (T : Addr) (f : Bool) (oT : Obj), IsZipHeld h za tI tO T f ∧ h.get? T = some oT ∧ T ≠ q ∧ T ∉ [za, tI, tO, ia, ib])
section
variable {X : Cx} {pins : List (Addr × Obj)} {σ : L2.St} {za tI tO ia ib la lb q : Addr} {xs ys : List V} {A1 : Around}
def Prd (K : PySem.W.Frag) (H : Hp) (xs ys acc : List V) : Prop := ∀ (j : Nat) (p : V), acc[j]? = some p → ∃ (T : Addr) (x y : V), p = .ref T ∧ xs[j]? = some x ∧ ys[j]? = some y ∧ SqT K H T [x, y]
theorem zl_loop {Rs : Result → Shared → Prop} {H0 : Hp} {n0 : Nat} (lz : ∀ c ∈ [za, tI, tO, ia, ib], c < n0) (hc : A1.handled = none) (D : ZipApart za tI tO ia ib la lb) (hl : xs.length = ys.length) (h1 : 1 ≤ xs.length) (hz : xs.length ≤ 1000)
    (fin : ∀ acc H s, Inv X pins σ H s → Kp [q] H0 H → H q = some (.lst acc) → acc.length = xs.length → Prd X.K H xs ys acc → Rs (.ok (.ret .none)) s) :
    ∀ (r i : Nat) (acc : List V) (H : Hp) (s : Shared), r = xs.length - i → i ≤ xs.length → Inv X pins σ H s → n0 ≤ s.heap.objs.size → Kp [q] H0 H → SqT X.K H la xs → SqT X.K H lb ys → H q = some (.lst acc) → acc.length = i → Prd X.K H xs ys acc → ZSt q s.heap za tI tO ia ib la lb i →
      (∀ c ∈ [za, tI, tO, ia, ib], FpOk X pins H c) → codeAny (model X.prog X.w) A1 (.builtin "list.extend.loop" ⟨[.ref q, .ref za, .none], []⟩) Rs s := by
  intro r
  induction r with
  | zero =>
    intro i acc H s hr hi I hn kp ha hb hq hal hp st fp
    refine codeAny_builtin (PySem.F.entry_extend_loop) ?_
    rw [Around.under_plainId (PySem.F.plain_extend_loop) _]
    obtain ⟨gI, ga, gb, gz⟩ := st
    have ei : i = xs.length := by omega
    rcases gz with ⟨z, _⟩ | ⟨T, f, oT, gz, gT, _⟩
    · omega
    obtain ⟨its, rv, p, _⟩ := I.tuple ha
    have hlen := rv.length
    refine wpAny_bind (show wpAny _ A1.in1 (pyNext (.ref za)) _ _ s from pyNext_heldT_end (xs := its.toArray) hc D gz gT gI ga p (by simp; omega) fun h' kk => ?_)
    have J : Inv X pins σ H { s with heap := h' } := I.turnedL (t' := s.toks) (ch := [za, tI, tO, ia, ib]) (fun c o n e => kk c o (fun z => n (by simp [z])) (fun z => n (by simp [z])) (fun z => n (by simp [z])) e) fp
    exact wpAny_pure (fin acc H _ J kp hq (by omega) hp)
  | succ r ih =>
    intro i acc H s hr hi I hn kp ha hb hq hal hp st fp
    refine codeAny_builtin (PySem.F.entry_extend_loop) ?_
    rw [Around.under_plainId (PySem.F.plain_extend_loop) _]
    obtain ⟨gI, ga, gb, gz⟩ := st
    obtain ⟨its, rv, p, _⟩ := I.tuple ha
    obtain ⟨its2, rv2, p2, _⟩ := I.tuple hb
    have hlt : i < xs.length := by omega
    have hlt2 : i < ys.length := by omega
    have hxi : xs[i]? = some xs[i] := List.getElem?_eq_getElem hlt
    have hyi : ys[i]? = some ys[i] := List.getElem?_eq_getElem hlt2
    obtain ⟨u, hu, ru⟩ := rv.get hxi
    obtain ⟨u2, hu2, ru2⟩ := rv2.get hyi
    have hnT : H s.heap.objs.size = none := I.hok.fresh (Nat.le_refl _)
    have nq : q ∉ [za, tI, tO, ia, ib] := fun z => by
      have := (fp q z).1
      rw [hq] at this
      cases this
    have nqT : q ≠ s.heap.objs.size := ne_of_none hq hnT
    have go : ∀ h' : Heap, IsZipHeld h' za tI tO s.heap.objs.size false ∨ IsZipHeld h' za tI tO s.heap.objs.size true ∨ (∃ (T : Addr) (f : Bool) (oT : Obj), IsZipHeld h' za tI tO T f ∧ h'.get? T = some oT ∧ T ≠ q ∧ T ∉ [za, tI, tO, ia, ib]) → h'.IsTupleIter ia la (i + 1) → h'.IsTupleIter ib lb (i + 1) → IsPair h' s.heap.objs.size u u2 → h'.objs.size = s.heap.objs.size + 1 →
        (∀ c o, c ∉ [za, tI, tO, ia, ib] → s.heap.get? c = some o → h'.get? c = some o) → IsPair h' tI (.ref ia) (.ref ib) →
        wpAny (model X.prog X.w) A1.in1 (updateSeq q (·.push (.ref s.heap.objs.size)) >>= fun _ => again (.builtin "list.extend.loop" ⟨[.ref q, .ref za, .none], []⟩)) (fun fin s' => match fin with | .done f => Rs (.ok f) s' | .again c' => c'.quiet = true ∧ codeAny (model X.prog X.w) A1 c' Rs s') (fun e s' => Rs (.error e) s') { s with heap := h' } := by
      intro h' gz' ga' gb' gP hsz kk gI'
      have new : ObjOk X.prog X.w (upd H s.heap.objs.size (.tup [xs[i], ys[i]])) h' s.heap.objs.size (.tup [xs[i], ys[i]]) := ⟨by show 2 ≤ sizeLine; decide, [u, u2], .cons ru (.cons ru2 .nil), ⟨_, gP, rfl, _, rfl⟩⟩
      have J : Inv X pins σ (upd H s.heap.objs.size (.tup [xs[i], ys[i]])) { s with heap := h' } := I.turnedNew (t' := s.toks) (ch := [za, tI, tO, ia, ib]) kk fp (Nat.le_refl _) new
      have hq1 : upd H s.heap.objs.size (.tup [xs[i], ys[i]]) q = some (.lst acc) := by rw [upd_ne nqT]; exact hq
      obtain ⟨z, itq, kq, rq, hlq, eq⟩ := J.lstM hq1
      have accl : acc.length = itq.length := hlq
      refine wpAny_bind (wpAny_updateSeq eq rfl (wpAny_pure ⟨plainId_quiet PySem.F.plain_extend_loop _, ?_⟩) (by rw [List.size_toArray]; have := sizeLine_eq; omega) (by show (itq.toArray.push _).size ≤ sizeLine + 1; rw [Array.size_push, List.size_toArray]; have := sizeLine_eq; omega))
      have k1 : Kp [] H (upd H s.heap.objs.size (.tup [xs[i], ys[i]])) := Kp.new hnT
      have k2 : Kp [q] (upd H s.heap.objs.size (.tup [xs[i], ys[i]])) (upd (upd H s.heap.objs.size (.tup [xs[i], ys[i]])) q (.lst (acc ++ [V.ref s.heap.objs.size]))) := Kp.write hq1
      have oth : ∀ c o, c ≠ q → h'.get? c = some o → (h'.update q (Obj.mapSeq (·.push (Value.ref s.heap.objs.size)))).get? c = some o := fun c o n e => (Heap.get?_update_other _ _ (Ne.symm n)).trans e
      have nqc : ∀ c ∈ [za, tI, tO, ia, ib], c ≠ q := fun c hm z => nq (z ▸ hm)
      refine ih (i + 1) (acc ++ [V.ref s.heap.objs.size]) _ _ (by omega) (by omega) (J.lset (its' := itq ++ [Value.ref s.heap.objs.size]) (t' := s.toks) hq1 eq (by simp) (rq.append (.cons (show L2.RelV (V.ref s.heap.objs.size) (Value.ref s.heap.objs.size) from rfl) .nil)) (by rw [List.length_append, List.length_singleton]; have := sizeLine_eq; omega)) ?_ ?_ (k2.sqT (k1.sqT ha)) (k2.sqT (k1.sqT hb)) upd_same (by simp [hal]) ?_ ⟨oth _ _ (nqc _ (by simp)) gI', ga'.at fun o e => oth _ o (nqc _ (by simp)) e, gb'.at fun o e => oth _ o (nqc _ (by simp)) e, .inr ?_⟩ fun c hm => ?_
      · show n0 ≤ (h'.update q _).objs.size
        rw [Heap.size_update, hsz]
        omega
      · exact (kp.step0 k1).step1 k2 (.inl (by simp))
      · intro j p hj
        by_cases hji : j < acc.length
        · rw [List.getElem?_append_left hji] at hj
          obtain ⟨T, x, y, e1, e2, e3, e4⟩ := hp j p hj
          exact ⟨T, x, y, e1, e2, e3, k2.sqT (k1.sqT e4)⟩
        · have hjl := (List.getElem?_eq_some_iff.mp hj).1
          have ej : j = i := by simp at hjl; omega
          subst ej
          rw [List.getElem?_append_right (by omega)] at hj
          have : j - acc.length = 0 := by omega
          rw [this] at hj
          have e0 : p = V.ref s.heap.objs.size := by simpa using hj.symm
          exact ⟨_, _, _, e0, hxi, hyi, k2.sqT (SqT.of upd_same)⟩
      · have nT0 : s.heap.objs.size ∉ [za, tI, tO, ia, ib] := fun z => absurd (lz _ z) (Nat.not_lt.mpr hn)
        rcases gz' with g | g | ⟨T, f, oT, g, gT, n, n2⟩
        · exact ⟨_, _, _, oth _ _ (nqc _ (by simp)) g, oth _ _ (Ne.symm nqT) gP, Ne.symm nqT, nT0⟩
        · exact ⟨_, _, _, oth _ _ (nqc _ (by simp)) g, oth _ _ (Ne.symm nqT) gP, Ne.symm nqT, nT0⟩
        · exact ⟨_, _, _, oth _ _ (nqc _ (by simp)) g, oth _ _ n gT, n, n2⟩
      · obtain ⟨f0, f1, f2, f3, f4, f5⟩ := fp c hm
        refine ⟨?_, f1, f2, f3, f4, f5⟩
        rw [upd_ne (nqc c hm), upd_ne (Nat.ne_of_lt (Nat.lt_of_lt_of_le (lz c hm) hn))]
        exact f0
    rcases gz with ⟨_, g, x0, y0, gO⟩ | ⟨T, f, oT, g, gT, n, n2⟩
    · refine wpAny_bind (show wpAny _ A1.in1 (pyNext (.ref za)) _ _ s from RZ.pyNext_zipT_item D g gI gO ga gb p p2 (x := u) (y := u2) (by simpa using hu) (by simpa using hu2) fun h' z1 z2 z3 z4 z5 z6 z7 => ?_)
      exact go h' (.inl z1) z3 z4 z5 z6 (fun c o n e => z7 c o (fun z => n (by simp [z])) (fun z => n (by simp [z])) (fun z => n (by simp [z])) (fun z => n (by simp [z])) e) (z7 _ _ D.TIz D.TITO D.TIi1 D.TIi2 gI)
    · refine wpAny_bind (show wpAny _ A1.in1 (pyNext (.ref za)) _ _ s from pyNext_heldT D g gT gI ga gb p p2 (x := u) (y := u2) (by simpa using hu) (by simpa using hu2) fun h' z1 z3 z4 z5 z6 z7 => ?_)
      exact go h' (.inr (.inr ⟨T, true, oT, z1, z7 _ _ (fun z => n2 (by simp [z])) (fun z => n2 (by simp [z])) (fun z => n2 (by simp [z])) gT, n, n2⟩)) z3 z4 z5 z6 (fun c o n e => z7 c o (fun z => n (by simp [z])) (fun z => n (by simp [z])) (fun z => n (by simp [z])) e) (z7 _ _ D.TIz D.TIi1 D.TIi2 gI)
/-- list(zip(t, u)) -/
def xLZ (K : PySem.W.Frag) (Q : VK) : List V → Hp → Prop := fun vs H1 => ∃ (a b : Addr) (xs ys : List V), vs = [.ref a, .ref b] ∧ SqT K H1 a xs ∧ SqT K H1 b ys ∧ xs.length = ys.length ∧ 1 ≤ xs.length ∧ xs.length ≤ 1000 ∧
  ∀ (q : Addr) (acc : List V) (H' : Hp), H1 q = none → Kp [] H1 H' → H' q = some (.lst acc) → acc.length = xs.length → Prd K H' xs ys acc → Q (.ref q) H'
def tLZ (K : PySem.W.Frag) (ta : TA) : TE := fun σ H Q => ta σ H (xLZ K Q)
theorem g_LZ {K : PySem.W.Frag} {ta : TA} {σ : L2.St} {H : Hp} {Q : VK} (k : ta σ H (xLZ K Q)) : tLZ K ta σ H Q := k
theorem pe_listZip {e e2 : Expr} {ta : TA} {p pos p2 pos2 : Pos} (hc : X.calm = true) (hgL : Gl X "list") (hmL : X.mg "list" = none) (hgZ : Gl X "zip") (hmZ : X.mg "zip" = none) (ha : PA X [e, e2] ta)
    (hs : starEach [e, e2] X.env = (false, eval e X.env) :: starEach [e2] X.env := by rfl) (hpl : (backTo pos2 (starEach [e2] X.env)).any (·.1) = false := by rfl) :
    PE X (.Call (.Name "list" p) [.Call (.Name "zip" p2) [e, e2] [] pos2] [] pos) (tLZ X.K ta) := by
  refine ⟨fun pins s σ H Q I h => ?_⟩
  refine Call_ (ld_blt I hgL hmL PyProof.Rows.boot_list (PyProof.Rows.callWith_type1 (spliced_more (Call_ (ld_blt I hgZ hmZ PyProof.Rows.boot_zip (PyProof.Rows.callWith_type1 (thn (ha.run pos2 pins s σ H _ I h) fun us s1 zz => ?_) hs hpl) (by decide) (by decide)))) rfl rfl) (by decide) (by decide))
  obtain ⟨vs, H1, I1, r1, a, b, xs, ys, ev, ta1, tb1, hl, h1, hz, kq⟩ := zz
  subst ev
  cases r1 with
  | cons ra rr => cases rr with
    | cons rb rr =>
      cases rr
      cases ra
      cases rb
      obtain ⟨its, rv, t1, _⟩ := I1.tuple ta1
      obtain ⟨its2, rv2, t2, _⟩ := I1.tuple tb1
      obtain ⟨o1, g1, _⟩ := id t1
      obtain ⟨o2, g2, _⟩ := id t2
      have D := PySem.W.ktu_apart s1.heap.objs.size a b (Heap.lt_size g1) (Heap.lt_size g2)
      refine RZ.call_zipT (show s1.heap.IsTuple a its.toArray from t1) (show s1.heap.IsTuple b its2.toArray from t2) fun h' gz gI gO ga gb hsz hk => spliced_none ?_
      have I2 : Inv X pins σ H1 { s1 with heap := h' } := I1.kept (t' := s1.toks) hk
      have rg : ∀ c ∈ [s1.heap.objs.size + 4, s1.heap.objs.size + 2, s1.heap.objs.size + 3, s1.heap.objs.size, s1.heap.objs.size + 1], s1.heap.objs.size ≤ c ∧ c < h'.objs.size := fun c hm => by
        have e' : c = s1.heap.objs.size + 4 ∨ c = s1.heap.objs.size + 2 ∨ c = s1.heap.objs.size + 3 ∨ c = s1.heap.objs.size ∨ c = s1.heap.objs.size + 1 := by simpa using hm
        rw [hsz]
        rcases e' with z | z | z | z | z <;> rw [z]
        · exact ⟨Nat.le_add_right _ _, Nat.add_lt_add_left (by decide) _⟩
        · exact ⟨Nat.le_add_right _ _, Nat.add_lt_add_left (by decide) _⟩
        · exact ⟨Nat.le_add_right _ _, Nat.add_lt_add_left (by decide) _⟩
        · exact ⟨Nat.le_refl _, Nat.lt_add_of_pos_right (by decide)⟩
        · exact ⟨Nat.le_add_right _ _, Nat.add_lt_add_left (by decide) _⟩
      have lq : H1 h'.objs.size = none := I2.hok.fresh (Nat.le_refl _)
      refine callType_codes (Q₁ := fun ob st => ob = .ref h'.objs.size ∧ st = { s1 with heap := h'.push { cls := .type "list", data := .seq #[] } }) PySem.F.called_list (PySem.F.typeCall_list_1 _) PySem.F.entry_list_init (code_list_new _ ⟨rfl, rfl⟩) fun ob st zz => ?_
      obtain ⟨rfl, rfl⟩ := zz
      have gS : (h'.push { cls := .type "list", data := .seq #[] }).get? h'.objs.size = some { cls := .type "list", data := .seq #[] } := Heap.get?_push_size _ rfl
      refine ⟨⟨_, gS, rfl⟩, PySem.F.args_list_init_2 _ _, ?_⟩
      have J1 : Inv X pins σ (upd H1 h'.objs.size (.lst [])) { s1 with heap := h'.push { cls := .type "list", data := .seq #[] } } := I2.lnew (its := []) (t' := s1.toks) .nil (Nat.zero_le _)
      show wpAny _ _ (do let o0 ← Builtin.List.listItems (.ref h'.objs.size); Builtin.List.listUpdate (.ref h'.objs.size) (fun _ => #[]); letGo o0.toList.reverse; Builtin.List.listExtendWith (.ref h'.objs.size) (.ref (s1.heap.objs.size + 4)) .none) _ _ _
      refine wpAny_bind ?_
      unfold Builtin.List.listItems
      refine wpAny_bind (wpAny_seqItems gS rfl (wpAny_pure ?_))
      show wpAny _ _ (updateSeq h'.objs.size (fun _ => #[]) >>= fun _ => letGo (#[] : Array Value).toList.reverse >>= fun _ => Builtin.List.listExtendWith (.ref h'.objs.size) (.ref (s1.heap.objs.size + 4)) .none) _ _ _
      refine wpAny_bind (wpAny_updateSeq gS rfl (wpAny_bind (wpAny_letGo ?_)))
      have J2 := J1.lset (f := fun _ => #[]) (its := []) (its' := []) (ys := []) (t' := s1.toks) upd_same gS rfl .nil (Nat.zero_le _)
      rw [upd_upd] at J2
      have fp : ∀ c ∈ [s1.heap.objs.size + 4, s1.heap.objs.size + 2, s1.heap.objs.size + 3, s1.heap.objs.size, s1.heap.objs.size + 1], FpOk X pins (upd H1 h'.objs.size (.lst [])) c := fun c hm => I1.fpOk (rg c hm).1 (by
        rw [upd_ne (Nat.ne_of_lt (rg c hm).2)]
        exact I1.hok.fresh (rg c hm).1)
      have up : Kp [] H1 (upd H1 h'.objs.size (.lst [])) := Kp.new lq
      have loop : ∀ st : Shared, Inv X pins σ (upd H1 h'.objs.size (.lst [])) st → (∀ c o, c ≠ h'.objs.size → h'.get? c = some o → st.heap.get? c = some o) → codeAny (model X.prog X.w) X.A.in1 (.builtin "list.extend.loop" ⟨[.ref h'.objs.size, .ref (s1.heap.objs.size + 4), .none], []⟩) (wants (fun r st2 => r = .none ∧ EP X pins σ Q (.ref h'.objs.size) st2) X.xe) st := by
        intro st J kt
        obtain ⟨_, _, _, _, _, gq⟩ := J.lstM upd_same
        have nc : ∀ c ∈ [s1.heap.objs.size + 4, s1.heap.objs.size + 2, s1.heap.objs.size + 3, s1.heap.objs.size, s1.heap.objs.size + 1], c ≠ h'.objs.size := fun c hm => Nat.ne_of_lt (rg c hm).2
        refine zl_loop (A1 := X.A.in1) (xs := xs) (ys := ys) (H0 := upd H1 h'.objs.size (.lst [])) (n0 := h'.objs.size) (fun c hm => (rg c hm).2) (show X.A.in1.handled = none from I.ok.hd hc) D hl h1 hz (fun acc G st2 J2 kp e le pr => ?_) xs.length 0 [] _ _ (by omega) (Nat.zero_le _) J (Nat.le_of_lt (Heap.lt_size gq)) (Kp.refl _) (up.sqT ta1) (up.sqT tb1) upd_same rfl (fun j p z => by simp at z)
          ⟨kt _ _ (nc _ (by simp)) gI, ga.at fun o z => kt _ o (nc _ (by simp)) z, gb.at fun o z => kt _ o (nc _ (by simp)) z, .inl ⟨rfl, kt _ _ (nc _ (by simp)) gz, _, _, kt _ _ (nc _ (by simp)) gO⟩⟩ fp
        exact ⟨rfl, .ref h'.objs.size, G, J2, rfl, kq _ acc G lq (up.step1 kp (.inr lq)) e le pr⟩
      have oth : ∀ c o, c ≠ h'.objs.size → h'.get? c = some o → ((h'.push { cls := .type "list", data := .seq #[] }).update h'.objs.size (Obj.mapSeq fun _ => #[])).get? c = some o := fun c o n z => (Heap.get?_update_other _ _ (Ne.symm n)).trans (Heap.get?_push_of_some _ z)
      have nz : s1.heap.objs.size + 4 ≠ h'.objs.size := Nat.ne_of_lt (rg _ (by simp)).2
      have gz2 := oth _ _ nz gz
      have ty : Shared.TypeIs { s1 with heap := (h'.push { cls := .type "list", data := .seq #[] }).update h'.objs.size (Obj.mapSeq fun _ => #[]) } (.ref (s1.heap.objs.size + 4)) "zip" := ⟨_, gz2, rfl⟩
      unfold Builtin.List.listExtendWith
      refine wpAny_bind (wpAny_typeOf ty ?_)
      have b1 : Builtin.List.listSameRef (.ref h'.objs.size) (.ref (s1.heap.objs.size + 4)) = false := by simp [Builtin.List.listSameRef, Ne.symm nz]
      have b2 : (Value.type "zip" == Value.type "list") = false := by decide
      have b3 : (Value.type "zip" == Value.type "tuple") = false := by decide
      simp only [b1, b2, b3, Bool.or_false, Bool.false_eq_true, if_false]
      refine wpAny_bind (wpAny_pyIter_zip (f0 := .none) gz2 (wpAny_bind (wpAny_holding (hint_zip ty ?_))))
      refine wpAny_ite_split (fun _ => ?_) (fun _ => wpAny_pure ⟨plainId_quiet PySem.F.plain_extend_loop _, loop _ J2 oth⟩)
      obtain ⟨z0, is0, k0, r0, l0, e0⟩ := J2.lstM upd_same
      cases r0
      refine wpAny_bind (wpAny_rule (wpAny_bind (show wpAny _ _ (updateSeq h'.objs.size (·.push .none) >>= fun _ => updateSeq h'.objs.size (·.pop)) _ _ _ from ?_)))
      refine wpAny_bind (wpAny_updateSeq e0 rfl ?_)
      have J3 := J2.lset (f := (·.push Value.none)) (its' := [Value.none]) (ys := [.non]) (t' := s1.toks) upd_same e0 (by simp) (.cons rfl .nil) (by rw [List.length_singleton, sizeLine_eq]; decide)
      obtain ⟨z4, is4, k4, ry4, l4, ey⟩ := J3.lstM upd_same
      obtain ⟨uy, rfl, ruy⟩ := ry4.one
      refine wpAny_updateSeq ey rfl ?_ (by show 1 ≤ sizeLine; rw [sizeLine_eq]; decide) (by show 0 ≤ sizeLine + 1; exact Nat.zero_le _)
      have J4 := J3.lset (f := (·.pop)) (its := [uy]) (its' := []) (ys := []) (t' := s1.toks) upd_same ey (by rfl) .nil (Nat.zero_le _)
      rw [upd_upd, upd_upd] at J4
      exact wpAny_pure ⟨plainId_quiet PySem.F.plain_extend_loop _, loop _ J4 fun c o n z => (Heap.get?_update_other _ _ (Ne.symm n)).trans ((Heap.get?_update_other _ _ (Ne.symm n)).trans (oth c o n z))⟩
end
end WZ

/-! an own error over ValueError, through further own classes, whose own __init__ says super().__init__(text) -/
namespace WZ
open PySem PySem.Spec PyProof.Rows L2 StX
section
variable {prog : Program} {w : World} {A : Around} {E : Value → Shared → Prop} {h : Heap} {g : Array GenState} {d : Drawn} {t : Nat} {os : OsState}
variable {nm q : Str} {C N : Addr} {bs bm : List Value} {hdct : Bool} {sn : List Str} {sub : List Value} {ab : Bool} {col : Option Bool} {dd : Option Addr} {k0 k1 k2 k3 k5 : Option Value}
/-- the bound ValueError.__init__ at u, called: e's texts are laid anew -/
theorem sup_wrap {u e t0 : Addr} {rest : List Value} {Q : Value → Shared → Prop} (hC : h.get? C = some (excClassObj nm q C N bs bm hdct sn sub ab col dd k0 k1 k2 k3 k5 "ValueError.__new__"))
    (he : h.get? e = some (PySem.HandSPX.excO C t0)) (hu : h.get? u = some (PySem.W.kxs_mw "ValueError.__init__" e)) (hz : rest.length ≤ sizeLine)
    (hq : ∀ h' t1, (∀ b o, b ≠ e → h.get? b = some o → h'.get? b = some o) → h'.get? e = some (PySem.HandSPX.excO C t1) → Q .none ⟨h', g, d, t, os⟩) :
    wpAny (model prog w) A (call (.ref u) rest) Q E ⟨h, g, d, t, os⟩ := by
  have FB := F.excBase_ValueError
  refine wpAny_call (codeAny_of_tree ?_)
  show wpAny _ A.in1 (callAny (.ref u) ⟨rest, []⟩) _ _ _
  simp only [callAny]
  refine wpAny_bind (wpAny_load hu ?_)
  have e1 : (Value.type "method-wrapper" == Value.type "method" || Value.type "method-wrapper" == Value.type "builtin_function_or_method" || Value.type "method-wrapper" == Value.type "method-wrapper") = true := by decide
  simp only [PySem.W.kxs_mw, e1, if_true]
  refine PySem.W.KFB.if_so (by decide) (wpAny_bind (PySem.W.check_bound_init FB.toExcCallFacts hC he rfl (wpAny_bind (wpAny_pure (wpAny_pure ?_)))))
  refine ⟨plainId_quiet FB.init.plain _, codeAny_builtin FB.initEntry ?_⟩
  rw [Around.under_plainId FB.init.plain _]
  wp_walk
  refine hq _ h.objs.size (fun b o hb ho => ?_) ?_
  · exact (Heap.get?_update_other _ _ (Ne.symm hb)).trans (Heap.get?_push_of_some _ ho)
  · rw [Heap.get?_update_self _ (Heap.get?_push_of_some _ he) rfl]
    rfl
end
/-- the body super().__init__(text) -/
def supStm (m : Str) (j : Nat) (p0 p1 p2 p3 p4 p5 : Pos) : Stmt := .Expr (.Call (.Attribute (.Call (.Name "super" p0) [] [] p1) "__init__" p2) [.Constant (.str m) j p3] [] p4) p5
/-- what the written part says of such a class -/
structure SupC (K : PySem.W.Frag) (P : Program) (C fI cc cda : Addr) (fd : FuncData) (me : Str) (m : Str) (j : Nat) (p0 p1 p2 p3 p4 : Pos) : Prop where
  cls : ∃ nm q N bs bm hdct sn sub ab col dd k0 k1 k2 k3 k5, K.lookup C = some (excClassObj nm q C N bs bm hdct sn sub ab col dd k0 k1 k2 k3 k5 "ValueError.__new__") ∧ PySem.HandSPX.refsVE bm = true
  ini : PySem.W.findIn K (.ref C) "__init__" = some (some (.ref fI))
  tyI : PySem.W.typeIn K (.ref fI) = some (.type "function")
  fn : ∃ oc od sl, K.lookup fI = some ⟨oc, od, .func fd, sl⟩
  code : ∃ ccl cdd vs ccs file tf, K.lookup cda = some ⟨ccl, cdd, .fields vs, ccs⟩ ∧ vs[2]? = some (.str file tf) ∧ ((P.main.file : Str) == file) = true
  cdv : fd.code = .ref cda
  clo : fd.closure = [(("__class__" : Str), cc)]
  glb : fd.globals = mainGlobals
  blt : fd.builtins = builtinsNs
  cel : ∃ cl cld csl, K.lookup cc = some ⟨cl, cld, .cell (some (.ref C)), csl⟩
  cin : PySem.W.codeIn K (.ref cda) fd.qualname = true
  sup : PySem.W.ks_superIn K C C "__init__" = some (some (.builtin "ValueError.__init__"))
  noS : PySem.W.nsIn K mainGlobals "super" = some none
  opq : PySem.W.nsIn K cStatics "thirdparty.any" = some none
  isV : PySem.W.subIn K (.ref C) (.type "ValueError") = some true
  isC : PySem.W.mroIn K C (.ref C) = some true
  exC : PySem.W.subIn K (.ref C) (.type "BaseException") = some true
  tyC : PySem.W.typeIn K (.ref C) = some (.type "type")
  kC : PySem.W.keepIn K (.ref C) = true
  top : (P.main.scope.names.lookup ("super" : Str)).isSome = false
  par : ∃ ar, (fd.params.posonlyargs ++ fd.params.args).head? = some ar ∧ ar.arg = me
  sSup : fd.scope.names.lookup ("super" : Str) = some .globalImplicit
  sCls : fd.scope.names.lookup ("__class__" : Str) = some .free
  sSelf : fd.scope.names.lookup me = some .local
  sCell : ∀ x ∈ fd.scope.names, x.2 ≠ .cell
  sCo : fd.scope.isCoroutine = false
  sGen : fd.scope.isGenerator = false
  sFun : fd.scope.kind = .function
  sInt : ∀ L a : Addr, interactive (callEnv fd L a) = false
  sEv : ∀ L a : Addr, ∃ pl : Sem Bool, eval (.Call (.Attribute (.Call (.Name "super" p0) [] [] p1) "__init__" p2) [.Constant (.str m) j p3] [] p4) (callEnv fd L a) = (do
      let ov ← attributeBase (.Call (.Name "super" p0) [] [] p1) "__init__" (callEnv fd L a) (eval (.Call (.Name "super" p0) [] [] p1) (callEnv fd L a))
      standAt p2.atName
      let (f, first) ← holding [ov] (getMethod ov "__init__" pl)
      callWith p4 f first (backTo p4 (starEach [.Constant (.str m) j p3] (callEnv fd L a))) [])
section
variable {prog : Program} {w : World} {A : Around} {E : Value → Shared → Prop} {h : Heap} {g : Array GenState} {d : Drawn} {t : Nat} {os : OsState}
variable {K : PySem.W.Frag} {C fI cc cda L e : Addr} {fd : FuncData} {self : Str} {mg : Str → Option Value}
/-- super() and its __init__ called, at the activation of __init__ -/
theorem sup_stmt {body : List Stmt} {mL : Str → Option Value} {m : Str} {j : Nat} {p0 p1 p2 p3 p4 p5 : Pos} {Q : Flow → Shared → Prop} {t0 : Addr} (T : SupC K prog C fI cc cda fd self m j p0 p1 p2 p3 p4) (kin : K.In h) (hg : h.Ns mainGlobals mg) (hb : ∃ mb, h.Ns builtinsNs mb ∧ ∀ x : Str, x ≠ "__name__" → mb x = bootBuiltins x)
    (he : h.get? e = some (PySem.HandSPX.excO C t0)) (hL : h.Ns L mL) (hs : mL self = some (.ref e))
    (hq : ∀ h' tk t1, (∀ b o, b ≠ e → h.get? b = some o → h'.get? b = some o) → h'.get? e = some (PySem.HandSPX.excO C t1) → Q .next ⟨h', g, d, tk, os⟩) :
    _root_.PySem.wpAt (model prog w) (A.deeper (callEnv fd L fI)) (.func body (callEnv fd L fI)) (exec (supStm m j p0 p1 p2 p3 p4 p5) (callEnv fd L fI)) Q E ⟨h, g, d, t, os⟩ := by
  obtain ⟨nm, q, N, bs, bm, hdct, sn, sub, ab, col, dd, k0, k1, k2, k3, k5, hC, hbm⟩ := T.cls
  obtain ⟨oc, od, sl, hfn⟩ := T.fn
  obtain ⟨ccl, cdd, vs, ccs, file, tf, hcode, hvs, hfile⟩ := T.code
  obtain ⟨cl, cld, csl, hcel⟩ := T.cel
  obtain ⟨ar, hp, har⟩ := T.par
  obtain ⟨mb, hmb, hbt⟩ := hb
  have eC := kin _ _ hC
  have hcl : PySem.W.clsIn K C = some { name := nm, bases := bs, mro := .ref C :: bm, ns := N, qualname := q, hasDict := hdct, slotNames := sn, subclasses := sub, abstract := ab, collection := col, hasDel := false } := by
    unfold PySem.W.clsIn
    rw [hC] <;> rfl
  have I : PySem.W.InstAt h e (PySem.HandSPX.excO C t0) C none := ⟨he, rfl, rfl, trivial⟩
  have neC : e ≠ C := PySem.W.ks_ne kin I hcl
  have kS : (callEnv fd L fI).kindOf "super" = some .globalImplicit := T.sSup
  have kK : (callEnv fd L fI).kindOf "__class__" = some .free := T.sCls
  have kL : (callEnv fd L fI).kindOf ar.arg = some .local := by rw [har]; exact T.sSelf
  have kF : (callEnv fd L fI).scope.kind = .function := T.sFun
  obtain ⟨pl, hev⟩ := T.sEv L fI
  refine ks_wpAt_Expr_any ?_ (T.sInt L fI)
  refine ks_wpAt_MethodCall ?_ hev
  refine ks_wpAt_super_base (env := callEnv fd L fI) kS kK (by decide) rfl (kin _ _ hfn) rfl hp T.cdv (kin _ _ hcode) rfl hvs hfile T.top ?_
  refine PySem.W.ks_loadName_global kF kS (Calls.loadGlobal_builtin (mg := mg) (mb := mb) (by rw [show (callEnv fd L fI).globals = mainGlobals from T.glb]; exact hg) (PySem.W.mg_none_of kin hg T.noS) (by rw [show (callEnv fd L fI).builtins = builtinsNs from T.blt]; exact hmb) ((hbt _ (by decide +kernel)).trans (show bootBuiltins "super" = some (.type "super") by decide +kernel)) ⟨rfl, ?_⟩)
  refine wpAny_loadName_free kF kK (show (callEnv fd L fI).cells.lookup ("__class__" : Str) = some cc by rw [show (callEnv fd L fI).cells = [(("__class__" : Str), cc)] from T.clo]; rfl) ⟨_, kin _ _ hcel, rfl⟩ ?_
  refine wpAny_loadName_local kF kL hL (by rw [har]; exact hs) ?_
  refine ks_wpAny_isType_cls eC rfl ⟨rfl, ?_⟩
  refine ks_wpAny_call_super eC rfl he rfl (fun c z => by cases z) (PySem.W.looks_mroIn kin T.isC) (fun h1 hso kk1 => ?_)
  have kin1 := kin.keeps kk1
  have hsup := T.sup
  unfold PySem.W.ks_superIn at hsup
  rw [hcl] at hsup
  refine PySem.W.kxs_getMethod PySem.W.kxs_ValueError hso (PySem.W.looks_opaque kin1 T.opq) (l₀ := .ref C :: bm) (fun A Q E s k q => wpAny_bind ((PySem.W.looks_clsIn kin1 hcl) A _ E s k (wpAny_pure q))) rfl kin1 hsup
    ((PySem.W.InstAt.type (h := h1) (od := none) ⟨kk1 _ _ he, rfl, rfl, trivial⟩).andThen (PySem.W.looks_subIn kin1 T.isV)) neC (by decide) ?_
  have hu : (h1.push (PySem.W.kxs_mw "ValueError.__init__" e)).get? h1.objs.size = some (PySem.W.kxs_mw "ValueError.__init__" e) := Heap.get?_push_at rfl rfl
  have up : ∀ b o, h.get? b = some o → (h1.push (PySem.W.kxs_mw "ValueError.__init__" e)).get? b = some o := fun b o z => Heap.get?_push_of_some _ (kk1 b o z)
  refine PySem.W.kxs_callWith (i := "ValueError.__init__") (x := e) rfl ?_
  refine Calls.evalArgs_plain ?_
  refine spliced_more (wpAny_Constant_str (spliced_none ⟨hu, ?_⟩))
  refine sup_wrap (up _ _ eC) (up _ _ he) hu (by show 1 ≤ sizeLine; rw [sizeLine_eq]; omega) fun h2 t1 k2 e2 => ?_
  exact hq h2 _ t1 (fun b o hb z => k2 b o hb (up b o z)) e2
end
theorem get_new {h : Heap} {a : Addr} (k : h.objs.size ≤ a) : h.get? a = none := by
  cases z : h.get? a with
  | none => rfl
  | some o => exact absurd (Heap.lt_size z) (Nat.not_lt.mpr k)
section
variable {X : Cx} {C fI cc cda : Addr} {fd : FuncData} {me x : Str} {k : Nat} {p pos : Pos}
/-- C(), where C's __init__(self) is super().__init__(text) -/
theorem pmk_sup {m : Str} {j : Nat} {p0 p1 p2 p3 p4 p5 : Pos} (T : SupC X.K X.prog C fI cc cda fd me m j p0 p1 p2 p3 p4) (hb : fd.body = .stmts [supStm m j p0 p1 p2 p3 p4 p5]) (hbd : ∀ v : Value, bindArgs fd ⟨[v], []⟩ = pure [(me, v)])
    (hr : Room (k + 1) X.A) (hg : Gl X x) (hm : X.mg x = some (.ref C)) (hdb : (x == ("__debug__" : Str)) = false := by decide) : PMk X (.Call (.Name x p) [] [] pos) (fun _ H Q => Q (.ref C) none H) := by
  intro pins s σ H Q I hq
  obtain ⟨nm, q, N, bs, bm, hdct, sn, sub, ab, col, dd, k0, k1, k2, k3, k5, hC, hbm⟩ := T.cls
  obtain ⟨oc, od, sl, hfn⟩ := T.fn
  refine wpAny_Call_Name_kw (ld_glob I hg hm ?_ hdb)
  refine PySem.W.callWith_K0 I.kIn T.kC ?_
  show wpAny _ _ (call (.ref C) []) _ _ _
  obtain ⟨hp, g, dr, tk, os⟩ := s
  have kk : ∀ b o, hp.get? b = some o → ((hp.push (PySem.W.kdv_tup [])).push (PySem.HandSPX.excO C hp.objs.size)).get? b = some o := fun b o e => Heap.get?_push_of_some _ (Heap.get?_push_of_some _ e)
  have he : ((hp.push (PySem.W.kdv_tup [])).push (PySem.HandSPX.excO C hp.objs.size)).get? (hp.objs.size + 1) = some (PySem.HandSPX.excO C hp.objs.size) := by heap_get
  have kin : X.K.In hp := I.kIn
  refine wpAny_call (PySem.HandSPX.call_own F.excBase_ValueError (fun Y => PySem.HandSPX.refsVE_contains Y bm hbm) (kin _ _ hC) (PySem.W.looks_findIn kin T.ini) (fun z => PySem.W.bind_fn kin z T.tyI) (Nat.zero_le _) ?_)
  refine ks_codeAny_call_defAt (binds := [(me, .ref (hp.objs.size + 1))]) (hr.make C [] []).depth (kk _ _ (kin _ _ hfn)) rfl (I.ok.mod.nolimit.keeps fun b o z => kk b o (I.bk b o z)) (T.cdv ▸ PySem.W.codeRec_of (kin.keeps kk) T.cin) hb (BindsTo.of_eq (hbd _)) T.sCell ?_ (fun h0 hns hk => ?_) T.sCo T.sGen T.sFun
  · intro y hy
    rw [List.mem_singleton.mp hy]
    exact T.sSelf
  have kk0 : ∀ b o, hp.get? b = some o → h0.get? b = some o := fun b o z => hk b o (kk b o z)
  obtain ⟨mb, h1, h2⟩ := I.mod.blt
  refine ks_wpAt_execs_cons (sup_stmt T (kin.keeps kk0) (I.mod.glob.keeps fun b o z => kk0 b o (I.bk b o z)) ⟨mb, h1.keeps fun b o z => kk0 b o (I.bk b o z), h2⟩ (hk _ _ he) hns (by simp [List.lookup]) fun h3 tk3 t1 k3' e3 => ?_)
  refine wpAt_of_wpAny (wpAny_execs_nil ?_)
  have nb : ∀ {b : Addr} {o : Obj}, hp.get? b = some o → b ≠ hp.objs.size + 1 := fun {b o} z => Nat.ne_of_lt (Nat.lt_succ_of_lt (Heap.lt_size z))
  exact ⟨rfl, hp.objs.size + 1, _, _, ⟨hp, g, dr, tk, os⟩, H, .ref C, none, rfl, I, fun b o z => k3' b o (nb z) (kk0 b o z), get_new (Nat.le_succ _), e3, ⟨rfl, rfl⟩, rfl, rfl, I.hok.fresh (Nat.le_succ _), rfl, I.bare, raises_own T.exC T.tyC, hq⟩
end
theorem SupC.exm {K : PySem.W.Frag} {P : Program} {C fI cc cda : Addr} {fd : FuncData} {me m : Str} {j : Nat} {p0 p1 p2 p3 p4 : Pos} (T : SupC K P C fI cc cda fd me m j p0 p1 p2 p3 p4) : PySem.W.exmOne K (.ref C) (.ref C) = some true := by
  obtain ⟨nm, q, N, bs, bm, hdct, sn, sub, ab, col, dd, k0, k1, k2, k3, k5, hC, _⟩ := T.cls
  have hcl : (PySem.W.clsIn K C).isSome = true := by
    unfold PySem.W.clsIn
    rw [hC] <;> rfl
  have e1 : PySem.W.subIn K (.ref C) (.ref C) = some true := T.isC
  unfold PySem.W.exmOne PySem.W.kitCls
  rw [T.exC]
  simp only [hcl, T.tyC, e1, beq_self_eq_true, Bool.and_self, if_true]
/-- an own error class by its name -/
structure Rz (K : PySem.W.Frag) (P : Program) (mg : Str → Option Value) (x : Str) (C : Addr) : Prop where
  ex : ∃ (fI cc cda : Addr) (fd : FuncData) (me m : Str) (j : Nat) (p0 p1 p2 p3 p4 p5 : Pos), SupC K P C fI cc cda fd me m j p0 p1 p2 p3 p4 ∧ fd.body = .stmts [supStm m j p0 p1 p2 p3 p4 p5] ∧ ∀ v : Value, bindArgs fd ⟨[v], []⟩ = pure [(me, v)]
  nm : mg x = some (.ref C)
theorem Rz.exm {K : PySem.W.Frag} {P : Program} {mg : Str → Option Value} {x : Str} {C : Addr} (r : Rz K P mg x C) : PySem.W.exmOne K (.ref C) (.ref C) = some true := by
  obtain ⟨_, _, _, _, _, _, _, _, _, _, _, _, _, T, _⟩ := r.ex
  exact T.exm
section
variable {X : Cx} {k j : Nat} {x : Str} {sp : Sp} {p pos : Pos} {e : Expr} {es : List Expr} {t : TA} {C : Addr} {W : WX} {σ : L2.St} {H : Hp} {Q : VK} {E : L2.St → XK}
theorem pmk_rz (r : Rz X.K X.prog X.mg x C) (hr : Room (k + 1) X.A) (hg : Gl X x) (hdb : (x == ("__debug__" : Str)) = false := by decide) : PMk X (.Call (.Name x p) [] [] pos) (fun _ H Q => Q (.ref C) none H) := by
  obtain ⟨fI, cc, cda, fd, me, m, j, p0, p1, p2, p3, p4, p5, T, hb, hbd⟩ := r.ex
  exact pmk_sup T hb hbd hr hg r.nm hdb
/-- a call that may raise, by its contract -/
theorem pe_cx (c : Cal (L2.CX X.prog X.w) X.prog X.w X.K X.mg X.base k x sp) (hr : Room j X.A) (hk : k ≤ j) (hg : Gl X x) (tk : Takes X W) (ha : PA X (e :: es) t)
    (hdb : (x == ("__debug__" : Str)) = false := by decide) (he : starEach (e :: es) X.env = (false, eval e X.env) :: starEach es X.env := by rfl) (hpl : (backTo pos (starEach es X.env)).any (·.1) = false := by rfl) :
    PE X (.Call (.Name x p) (e :: es) [] pos) (tCallS sp (WE W) t) := by
  obtain ⟨f, fd, ps, F, hm, kp, b⟩ := c.ex
  exact pe_callS F (hr.mono hk) hg hm kp b (fun σ => passAt tk σ) ha hdb he hpl
theorem g_callS (k : t σ H fun vs H1 => sp vs H1 Q (E σ)) : tCallS sp E t σ H Q := k
end
theorem cal_ofX {P : Program} {w : World} {K : PySem.W.Frag} {mg : Str → Option Value} {base : Heap} {f : Addr} {fd : FuncData} {x q : Str} {st : Stmt} {k : Nat} {ps : List Str} {sp : Sp} (F : Fun K x q st f fd) (m : mg x = some (.ref f)) (b : Binds K fd ps []) (ok : FnOk P w K mg base (L2.CX P w) k f fd ps sp) : Cal (L2.CX P w) P w K mg base k x sp := ⟨f, fd, ps, ok, m, F.kp, b⟩
theorem rz_mk {K : PySem.W.Frag} {P : Program} {mg : Str → Option Value} {x : Str} {C fI cc cda : Addr} {fd : FuncData} {me m : Str} {j : Nat} {p0 p1 p2 p3 p4 p5 : Pos} (hb : fd.body = .stmts [supStm m j p0 p1 p2 p3 p4 p5]) (T : SupC K P C fI cc cda fd me m j p0 p1 p2 p3 p4)
    (hbd : ∀ v : Value, bindArgs fd ⟨[v], []⟩ = pure [(me, v)]) (nm : mg x = some (.ref C)) : Rz K P mg x C := ⟨⟨fI, cc, cda, fd, me, m, j, p0, p1, p2, p3, p4, p5, T, hb, hbd⟩, nm⟩
end WZ

/-! promises of what is refused, of two scripts -/
namespace WZ
open PySem PySem.Spec PyProof.Rows L2 StX
/-- two scripts of other numbers of wheels are refused -/
def spRef2 (K : PySem.W.Frag) (C NC : Addr) : Sp := fun vs H Q E => ∃ (a b : Addr) (n1 n2 : Nat) (l m : List Stp), vs = [.ref a, .ref b] ∧ Scr K C H a n1 l ∧ Scr K C H b n2 m ∧ n1 ≠ n2 ∧ E (.ref NC) none H
theorem ap_ref2 {K : PySem.W.Frag} {C NC : Addr} {H : Hp} {Q : VK} {E : XK} {a b : Addr} {n1 n2 : Nat} {l m : List Stp} (h1 : Scr K C H a n1 l) (h2 : Scr K C H b n2 m) (h3 : n1 ≠ n2) (k : E (.ref NC) none H) : spRef2 K C NC [.ref a, .ref b] H Q E := ⟨a, b, n1, n2, l, m, rfl, h1, h2, h3, k⟩
/-- how often two scripts are refused -/
def spRefI (K : PySem.W.Frag) (C : Addr) : Sp := fun vs H Q _ => ∃ (a b : Addr) (n1 n2 : Nat) (l m : List Stp), vs = [.ref a, .ref b] ∧ Scr K C H a n1 l ∧ Scr K C H b n2 m ∧ n1 ≠ n2 ∧ ∀ H', Kp [] H H' → Q (.int 2) H'
def spRefB (K : PySem.W.Frag) (C : Addr) : Sp := fun vs H Q _ => ∃ (a b : Addr) (n1 n2 : Nat) (l m : List Stp), vs = [.ref a, .ref b] ∧ Scr K C H a n1 l ∧ Scr K C H b n2 m ∧ n1 ≠ n2 ∧ ∀ H', Kp [] H H' → Q (.bl true) H'
theorem other_wheels {n : Nat} (h1 : 1 ≤ n) (h3 : n ≤ 3) : n ≠ n % 3 + 1 ∧ 1 ≤ n % 3 + 1 ∧ n % 3 + 1 ≤ 3 := by
  rcases (show n = 1 ∨ n = 2 ∨ n = 3 by omega) with rfl | rfl | rfl <;> decide
theorem partZ_none {l m : List Stp} {n : Nat} : (partZ l m n).isNone = (partZ m l n).isNone := by
  unfold partZ
  rw [Nat.max_comm (reachZ l), Bool.eq_iff_iff, Option.isNone_iff_eq_none, Option.isNone_iff_eq_none, List.find?_eq_none, List.find?_eq_none]
  refine ⟨fun h x hx z => h x hx ?_, fun h x hx z => h x hx ?_⟩
  · simp only [decide_eq_true_eq] at z ⊢
    exact fun e => z e.symm
  · simp only [decide_eq_true_eq] at z ⊢
    exact fun e => z e.symm
theorem dOpt_s : ∀ o : Option (List Int), SeqAt.shaped (dOpt o) = true
  | none => rfl
  | some r => dInts_s r
theorem dOpt_d : ∀ o : Option (List Int), (dOpt o).depth ≤ 1
  | none => by decide
  | some r => by
    show (dInts r).depth ≤ 1
    rw [dInts_d]
    exact Nat.le_refl _
theorem dOpt_w {o : Option (List Int)} (h : ∀ r, o = some r → Sm r ∧ r.length ≤ 3) : (dOpt o).weight ≤ 1000 := by
  cases o with
  | none => decide
  | some r =>
    have := dInts_w (h r rfl).1
    have := (h r rfl).2
    show (dInts r).weight ≤ 1000
    omega
theorem find_small {b n : Nat} {g : List Int → Bool} (hb : b ≤ 300) (n3 : n ≤ 2) : (dOpt ((allS b (n + 1)).find? g)).weight ≤ 1000 := by
  refine dOpt_w fun r h => ?_
  have hm := allS_mem.mp (List.mem_of_find?_eq_some h)
  refine ⟨fun x hx => ?_, by have := hm.1; omega⟩
  have := hm.2 x hx
  have : (2 : Nat) ^ 100 > 20000 := by decide
  omega
end WZ

/-! texts: words, lines, the whole text of a script; str of a number or a text, join -/
namespace WZ
open PySem PySem.Spec PyProof.Rows L2 StX SkE
/-! a number or a text, as a text -/
def sv : V → Str
  | .str z => z
  | .int i => toString i
  | _ => Str.empty
def ItemV (x : V) : Prop := (∃ z, x = .str z) ∨ ∃ i : Int, x = .int i ∧ i.natAbs.log2 < 1920
def rStr1 : List V → Hp → VK → Prop := fun xs H Q => ∃ x, xs = [x] ∧ ItemV x ∧ Q (.str (sv x)) H
theorem call_str1 {X : Cx} : CallR X (.type "str") rStr1 := by
  intro pins s σ H xs us Q I r h
  obtain ⟨x, rfl, hx, q⟩ := h
  rcases hx with ⟨z, rfl⟩ | ⟨i, rfl, hi⟩
  · exact call_str_str pins s σ H _ us Q I r ⟨z, rfl, q⟩
  · exact call_str_int pins s σ H _ us Q I r ⟨i, rfl, hi, q⟩
theorem g_str1 {H : Hp} {Q : VK} {x : V} (hx : ItemV x) (k : Q (.str (sv x)) H) : rStr1 [x] H Q := ⟨x, rfl, hx, k⟩
def rJoin (K : PySem.W.Frag) : V → List V → Hp → VK → Prop := fun x xs H Q => ∃ a p, ∃ ys : List Str, x = .str a ∧ xs = [.ref p] ∧ (SqL K H p (ys.map V.str) ∨ SqT K H p (ys.map V.str)) ∧ (ys.map (·.length)).sum + ys.length * a.length ≤ 16777216 ∧ Q (.str (Txt.join a ys)) H
theorem pe_joinK {X : Cx} {o e : Expr} {to te : TE} {apos pos : Pos} (ho : PE X o to) (he : PE X e te) (hs : starEach [e] X.env = [(false, eval e X.env)] := by rfl) (hbase : attributeBase o "join" X.env (eval o X.env) = eval o X.env := by rfl) (hline : (apos.endLine == pos.line) = true := by rfl) :
    PE X (.Call (.Attribute o "join" apos) [e] [] pos) (tM1 (rJoin X.K) to te) := pe_join ho he hs hbase hline
theorem g_tM1 {r : V → List V → Hp → VK → Prop} {a : Str} {te : TE} {σ : L2.St} {H : Hp} {Q : VK} (k : te σ H fun y H2 => r (.str a) [y] H2 Q) : tM1 r (tC (.str a)) te σ H Q := ⟨⟨a, rfl⟩, k⟩
theorem g_joinL {K : PySem.W.Frag} {H : Hp} {Q : VK} {a : Str} {p : Addr} {ys : List Str} (h : SqL K H p (ys.map V.str)) (hz : (ys.map (·.length)).sum + ys.length * a.length ≤ 16777216) (k : Q (.str (Txt.join a ys)) H) : rJoin K (.str a) [.ref p] H Q := ⟨a, p, ys, rfl, rfl, .inl h, hz, k⟩
/-! what words and lines are made of -/
def wokB (z : Str) : Bool := decide (z.length ≤ 5) && (TL.tl z).all fun c => decide (33 ≤ c) && decide (c ≤ 126)
theorem tl_len (z : Str) : (TL.tl z).length = z.length := by simp [TL.tl, Str.length]
def lokB (m : Nat) (z : Str) : Prop := z.length ≤ m ∧ ∀ c ∈ TL.tl z, 32 ≤ c ∧ c ≤ 126
theorem wok_lok {z : Str} (h : wokB z = true) : lokB 5 z ∧ 32 ∉ TL.tl z := by
  simp only [wokB, Bool.and_eq_true, decide_eq_true_eq, List.all_eq_true] at h
  refine ⟨⟨h.1, fun c hc => ?_⟩, fun c => ?_⟩
  · have := h.2 c hc
    omega
  · have := h.2 32 c
    omega
theorem num_wok {i : Int} (h1 : -2 ≤ i) (h2 : i ≤ 3) : wokB (toString i : String) = true := by
  rcases (by omega : i = -2 ∨ i = -1 ∨ i = 0 ∨ i = 1 ∨ i = 2 ∨ i = 3) with rfl | rfl | rfl | rfl | rfl | rfl <;> decide +kernel
theorem num_log {i : Int} (h1 : -2 ≤ i) (h2 : i ≤ 3) : i.natAbs.log2 < 1920 := by
  rcases (by omega : i = -2 ∨ i = -1 ∨ i = 0 ∨ i = 1 ∨ i = 2 ∨ i = 3) with rfl | rfl | rfl | rfl | rfl | rfl <;> decide +kernel
theorem wd_wok (k : Wd) : wokB k.s = true := by cases k <;> decide +kernel
theorem mem_joinL {S : List Nat} {c : Nat} : ∀ {ps : List (List Nat)}, c ∈ TL.joinL S ps → c ∈ S ∨ ∃ p ∈ ps, c ∈ p
  | [], h => by simp [TL.joinL] at h
  | [p], h => .inr ⟨p, List.mem_singleton.mpr rfl, h⟩
  | p :: q :: r, h => by
    have h' : c ∈ p ++ (S ++ TL.joinL S (q :: r)) := h
    rcases List.mem_append.mp h' with z | z
    · exact .inr ⟨p, List.mem_cons_self, z⟩
    · rcases List.mem_append.mp z with z | z
      · exact .inl z
      · rcases mem_joinL z with y | ⟨p', hp, y⟩
        · exact .inl y
        · exact .inr ⟨p', List.mem_cons_of_mem _ hp, y⟩
theorem len_joinL {S : List Nat} : ∀ ps : List (List Nat), (TL.joinL S ps).length ≤ (ps.map (·.length)).sum + ps.length * S.length
  | [] => by simp [TL.joinL]
  | [p] => by simp [TL.joinL]
  | p :: q :: r => by
    have h := len_joinL (S := S) (q :: r)
    show (p ++ (S ++ TL.joinL S (q :: r))).length ≤ _
    rw [List.length_append, List.length_append, List.map_cons, List.sum_cons, List.length_cons, Nat.succ_mul]
    omega
theorem tl_joined (y : Str) (ps : List Str) : TL.tl (Txt.join y ps) = TL.joinL (TL.tl y) (ps.map TL.tl) := by rw [TL.join_eq, TL.tl_join]
theorem len_join (y : Str) (ps : List Str) : (Txt.join y ps).length ≤ (ps.map (·.length)).sum + ps.length * y.length := by
  rw [← tl_len, tl_joined]
  have h := len_joinL (S := TL.tl y) (ps.map TL.tl)
  rw [List.map_map, List.length_map, tl_len] at h
  have e : (ps.map ((fun x : List Nat => x.length) ∘ TL.tl)) = ps.map (·.length) := List.map_congr_left fun z _ => tl_len z
  rw [e] at h
  exact h
theorem mem_join {y : Str} {ps : List Str} {c : Nat} (h : c ∈ TL.tl (Txt.join y ps)) : c ∈ TL.tl y ∨ ∃ p ∈ ps, c ∈ TL.tl p := by
  rw [tl_joined] at h
  rcases mem_joinL h with z | ⟨p, hp, z⟩
  · exact .inl z
  · obtain ⟨q, hq, rfl⟩ := List.mem_map.mp hp
    exact .inr ⟨q, hq, z⟩
theorem sum_le {ps : List Str} {m : Nat} (h : ∀ p ∈ ps, p.length ≤ m) : (ps.map (·.length)).sum ≤ ps.length * m := by
  induction ps with
  | nil => simp
  | cons p r ih =>
    have h1 := h p List.mem_cons_self
    have h2 := ih fun q hq => h q (List.mem_cons_of_mem _ hq)
    rw [List.map_cons, List.sum_cons, List.length_cons, Nat.succ_mul]
    omega
theorem lok_join {ps : List Str} {m : Nat} (h : ∀ p ∈ ps, lokB m p) : lokB (ps.length * m + ps.length) (Txt.join " " ps) := by
  refine ⟨?_, fun c hc => ?_⟩
  · have h1 := len_join " " ps
    have h2 := sum_le (ps := ps) (m := m) fun p hp => (h p hp).1
    have : (" " : Str).length = 1 := by decide +kernel
    rw [this] at h1
    omega
  · rcases mem_join hc with z | ⟨p, hp, z⟩
    · have e : TL.tl (" " : Str) = [32] := by decide +kernel
      rw [e, List.mem_singleton] at z
      omega
    · exact (h p hp).2 c z
def Pl.words : Pl → List Str
  | .turn w b k => ["turn", toString (w : Int), toString b, k.s]
  | .set w p => ["set", toString (w : Int), toString p]
def Stp.words : Stp → List Str
  | .pl p => p.words
  | .alike a b _ _ => ["alike", toString (a : Int), toString (b : Int)]
def Stp.head (s : Stp) : Str := Txt.join " " s.words
def roomS : Str := "  "
def plLine (p : Pl) : Str := roomS ++ Stp.head (.pl p)
def Stp.tail : Stp → List Str
  | .pl _ => []
  | .alike _ _ f g => f.map plLine ++ ("else" : Str) :: g.map plLine
def Stp.lines (s : Stp) : List Str := s.head :: s.tail
def linesZ (n : Nat) (l : List Stp) : List Str := ("wheels " ++ (toString (n : Int) : String) : Str) :: l.flatMap Stp.lines
def textZ (n : Nat) (l : List Stp) : Str := Txt.join "\n" (linesZ n l)
theorem words_wok {n : Nat} {s : Stp} (hn : n ≤ 3) (h : s.ok n) : ∀ z ∈ s.words, wokB z = true := by
  intro z hz
  cases s with
  | pl p =>
    cases p with
    | turn w b k =>
      have h' : w < n ∧ (b = -2 ∨ b = -1 ∨ b = 1 ∨ b = 2) := h
      have hz' : z ∈ (["turn", toString (w : Int), toString b, k.s] : List Str) := hz
      simp only [List.mem_cons, List.not_mem_nil, or_false] at hz'
      rcases hz' with rfl | rfl | rfl | rfl
      · decide +kernel
      · exact num_wok (by omega) (by omega)
      · exact num_wok (by omega) (by omega)
      · exact wd_wok k
    | set w p =>
      have h' : w < n ∧ -2 ≤ p ∧ p ≤ 1 := h
      have hz' : z ∈ (["set", toString (w : Int), toString p] : List Str) := hz
      simp only [List.mem_cons, List.not_mem_nil, or_false] at hz'
      rcases hz' with rfl | rfl | rfl
      · decide +kernel
      · exact num_wok (by omega) (by omega)
      · exact num_wok (by omega) (by omega)
  | alike a b f g =>
    have h' : a < b ∧ b < n ∧ _ := h
    have hz' : z ∈ (["alike", toString (a : Int), toString (b : Int)] : List Str) := hz
    simp only [List.mem_cons, List.not_mem_nil, or_false] at hz'
    rcases hz' with rfl | rfl | rfl
    · decide +kernel
    · exact num_wok (by omega) (by omega)
    · exact num_wok (by omega) (by omega)
theorem words_len (s : Stp) : s.words.length ≤ 4 := by
  cases s with
  | pl p => cases p <;> simp [Stp.words, Pl.words]
  | alike a b f g => simp [Stp.words]
theorem words_sz {n : Nat} {s : Stp} (hn : n ≤ 3) (h : s.ok n) : (s.words.map (·.length)).sum + s.words.length * (" " : Str).length ≤ 16777216 := by
  have a := sum_le (ps := s.words) (m := 5) fun z hz => (wok_lok (words_wok hn h z hz)).1.1
  have b := words_len s
  have e : (" " : Str).length = 1 := by decide +kernel
  rw [e]
  omega
theorem lok_mono {a b : Nat} {z : Str} (h : lokB a z) (h' : a ≤ b) : lokB b z := ⟨Nat.le_trans h.1 h', h.2⟩
theorem head_lok {n : Nat} {s : Stp} (hn : n ≤ 3) (h : s.ok n) : lokB 24 s.head := by
  have h1 := lok_join (ps := s.words) (m := 5) fun z hz => (wok_lok (words_wok hn h z hz)).1
  have h2 := words_len s
  exact lok_mono h1 (by omega)
theorem room_lok {z : Str} {m : Nat} (h : lokB m z) : lokB (m + 2) (roomS ++ z) := by
  have e : TL.tl roomS = [32, 32] := by decide +kernel
  refine ⟨?_, fun c hc => ?_⟩
  · rw [← tl_len, TL.tl_append, List.length_append, e, tl_len]
    have := h.1
    simp only [List.length_cons, List.length_nil]
    omega
  · rw [TL.tl_append, e] at hc
    rcases List.mem_append.mp hc with z | z
    · simp only [List.mem_cons, List.not_mem_nil, or_false, or_self] at z
      omega
    · exact h.2 c z
theorem lines_lok {n : Nat} {s : Stp} (hn : n ≤ 3) (h : s.ok n) : ∀ z ∈ s.lines, lokB 26 z := by
  intro z hz
  cases s with
  | pl p =>
    rw [List.mem_singleton.mp (show z ∈ [Stp.head (.pl p)] from hz)]
    exact lok_mono (head_lok hn h) (by decide)
  | alike a b f g =>
    have h' : a < b ∧ b < n ∧ (∀ p ∈ f, p.ok n) ∧ ∀ p ∈ g, p.ok n := h
    have hl : ∀ q : Pl, q.ok n → lokB 26 (plLine q) := fun q hq => room_lok (head_lok (s := .pl q) hn hq)
    rcases List.mem_cons.mp hz with rfl | hz
    · exact lok_mono (head_lok hn h) (by decide)
    · rcases List.mem_append.mp hz with hz | hz
      · obtain ⟨q, hq, rfl⟩ := List.mem_map.mp hz
        exact hl q (h'.2.2.1 q hq)
      · rcases List.mem_cons.mp hz with rfl | hz
        · refine ⟨by decide +kernel, fun c hc => ?_⟩
          have : (TL.tl ("else" : Str)).all (fun c => decide (32 ≤ c) && decide (c ≤ 126)) = true := by decide +kernel
          have := List.all_eq_true.mp this c hc
          simpa using this
        · obtain ⟨q, hq, rfl⟩ := List.mem_map.mp hz
          exact hl q (h'.2.2.2 q hq)
theorem wh_lok {n : Nat} (h1 : 1 ≤ n) (h3 : n ≤ 3) : lokB 26 ("wheels " ++ (toString (n : Int) : String) : Str) := by
  have h : ∀ z : Str, (decide (z.length ≤ 26) && (TL.tl z).all (fun c => decide (32 ≤ c) && decide (c ≤ 126))) = true → lokB 26 z := fun z hz => by
    simp only [Bool.and_eq_true, decide_eq_true_eq, List.all_eq_true] at hz
    exact hz
  refine h _ ?_
  rcases (by omega : n = 1 ∨ n = 2 ∨ n = 3) with rfl | rfl | rfl <;> decide +kernel
theorem linesZ_lok {n : Nat} {l : List Stp} (h1 : 1 ≤ n) (h3 : n ≤ 3) (h : StepsOk n l) : ∀ z ∈ linesZ n l, lokB 26 z := by
  intro z hz
  rcases List.mem_cons.mp hz with rfl | hz
  · exact wh_lok h1 h3
  · obtain ⟨s, hs, hz⟩ := List.mem_flatMap.mp hz
    exact lines_lok h3 (h s hs) z hz
theorem lines_len (s : Stp) : s.lines.length ≤ 2 * s.cnt := by
  cases s with
  | pl p => simp [Stp.lines, Stp.tail, Stp.cnt]
  | alike a b f g =>
    simp only [Stp.lines, Stp.tail, Stp.cnt, List.length_cons, List.length_append, List.length_map]
    omega
theorem flat_len2 : ∀ l : List Stp, (l.flatMap Stp.lines).length ≤ 2 * cnts l
  | [] => by simp
  | s :: r => by
    have h1 := flat_len2 r
    have h2 := lines_len s
    rw [List.flatMap_cons, List.length_append]
    show _ ≤ 2 * (s.cnt + cnts r)
    omega
theorem linesZ_len (n : Nat) (l : List Stp) : (linesZ n l).length ≤ 1 + 2 * cnts l := by
  have := flat_len2 l
  rw [linesZ, List.length_cons]
  omega
theorem strOk_of {z : Str} (h : ∀ c ∈ TL.tl z, c ≤ 126) : PyData.strOk z = true := by
  unfold PyData.strOk
  rw [← Array.all_toList, List.all_eq_true]
  intro c hc
  have := h c hc
  exact decide_eq_true (by omega)
theorem textZ_ok {n : Nat} {l : List Stp} (h1 : 1 ≤ n) (h3 : n ≤ 3) (h : StepsOk n l) : ∀ c ∈ TL.tl (textZ n l), c ≤ 126 := by
  intro c hc
  rcases mem_join hc with z | ⟨p, hp, z⟩
  · have e : TL.tl ("\n" : Str) = [10] := by decide +kernel
    rw [e, List.mem_singleton] at z
    omega
  · exact ((linesZ_lok h1 h3 h p hp).2 c z).2
theorem textZ_len {n : Nat} {l : List Stp} (h1 : 1 ≤ n) (h3 : n ≤ 3) (h : StepsOk n l) (hc : cnts l ≤ 5) : (textZ n l).length ≤ 400 := by
  have a := len_join "\n" (linesZ n l)
  have b := sum_le (ps := linesZ n l) (m := 26) fun z hz => (linesZ_lok h1 h3 h z hz).1
  have c := linesZ_len n l
  have e : ("\n" : Str).length = 1 := by decide +kernel
  rw [e] at a
  show (Txt.join "\n" (linesZ n l)).length ≤ 400
  omega
theorem gc_str {K : PySem.W.Frag} {h : Heap} {mg : Str → Option Value} (X : K.In h) (G : h.Ns mainGlobals mg) {x i : Str} {t : Nat} (a : PySem.W.nsIn K mainGlobals x = some (some (.str i t))) : Gc mg x (.str i) := ⟨_, PySem.W.mg_of X G a, _, rfl⟩
def spLineOf (K : PySem.W.Frag) : Sp := fun vs H Q _ => ∃ (v : V) (s : Stp) (n : Nat), vs = [v] ∧ Td K H v s.dat ∧ n ≤ 3 ∧ s.ok n ∧ ∀ H', Kp [] H H' → Q (.str s.head) H'
def spWrite (K : PySem.W.Frag) (C : Addr) : Sp := fun vs H Q _ => ∃ (a : Addr) (n : Nat) (l : List Stp), vs = [.ref a] ∧ Scr K C H a n l ∧ ∀ H', Kp [] H H' → Q (.str (textZ n l)) H'
theorem ap_lineOf {K : PySem.W.Frag} {H : Hp} {Q : VK} {E : XK} {v : V} {n : Nat} (s : Stp) (h : Td K H v s.dat) (hn : n ≤ 3) (ho : s.ok n) (k : ∀ H', Kp [] H H' → Q (.str s.head) H') : spLineOf K [v] H Q E := ⟨v, s, n, rfl, h, hn, ho, k⟩
end WZ

set_option maxHeartbeats 4000000
namespace WZ
open PySem PySem.Spec PyProof.Rows L2 StX
def topS (i : Nat) : Stmt := PySem.Challenge.pw_wheelsizes_k18_asked_again.main.body.getD i (.Pass ⟨0, 0, 0, 0⟩)
/-! my own short words for a reading's steps -/
local macro_rules | `(tactic| walk_at "th") => `(tactic| first
  | exact Th.refl _
  | ((refine' Th.trans ?ha (Kp.th ?hb)); (case hb => assumption); (case ha => walk_at "th")))
local macro_rules | `(tactic| walk_at "no") => `(tactic| first
  | assumption
  | ((refine' Th.none ?ha ?hb); (case hb => assumption); (case ha => walk_at "th")))
local macro_rules | `(tactic| walk_at "in") => `(tactic| first
  | (refine' Or.inl ?ha; (case ha => simp; done))
  | (refine' Or.inr ?ha; (case ha => walk_at "no")))
local macro_rules | `(tactic| walk_at "k") => `(tactic| first
  | assumption
  | exact Kp.refl _
  | ((refine' Kp.step0 ?ha ?hb); (case hb => assumption); (case ha => walk_at "k"))
  | ((refine' Kp.step1 ?ha ?hb ?hc); (case hb => assumption); (case ha => walk_at "k"); (case hc => walk_at "in"))
  | ((refine' Kp.step2 ?ha ?hb ?hc ?hd); (case hb => assumption); (case ha => walk_at "k"); (case hc => walk_at "in"); (case hd => walk_at "in")))
local macro_rules | `(tactic| walk_at "ne") => `(tactic| first
  | assumption
  | ((refine' Ne.symm ?ha); (case ha => assumption))
  | ((refine' Src.ne ?ha ?hb); (case hb => assumption); (case ha => walk_at "h"))
  | ((refine' Scr.ne ?ha ?hb); (case hb => assumption); (case ha => walk_at "h"))
  | ((refine' Ne.symm (Scr.ne ?ha ?hb)); (case hb => assumption); (case ha => walk_at "h"))
  | ((refine' Src.ne2 ?ha ?hb); (case hb => assumption); (case ha => walk_at "h"))
  | ((refine' Ne.symm (Src.ne ?ha ?hb)); (case hb => assumption); (case ha => walk_at "h"))
  | ((refine' Ne.symm (Src.ne2 ?ha ?hb)); (case hb => assumption); (case ha => walk_at "h"))
  | ((refine' ne_of_none ?ha ?hb); (case hb => assumption); (case ha => walk_at "h"))
  | ((refine' Ne.symm (ne_of_none ?ha ?hb)); (case hb => assumption); (case ha => walk_at "h")))
local macro_rules | `(tactic| walk_at "n") => `(tactic| first
  | exact List.not_mem_nil
  | (refine' notin1 ?ha; (case ha => walk_at "ne"))
  | (refine' notin2 ?ha ?hb; (case ha => walk_at "ne"); (case hb => walk_at "ne"))
  | (refine' notin3 ?ha ?hb ?hc; (case ha => walk_at "ne"); (case hb => walk_at "ne"); (case hc => walk_at "ne")))
local macro_rules | `(tactic| walk_at "h") => `(tactic| first
  | assumption
  | ((with_reducible refine' SqT.of ?ha); (case ha => assumption))
  | ((with_reducible refine' SqL.of ?ha); (case ha => assumption))
  | ((with_reducible refine' KT.sq ?ha); (case ha => assumption))
  | ((with_reducible refine' Or.inl ?ha); (case ha => walk_at "h"))
  | ((with_reducible refine' Or.inr ?ha); (case ha => walk_at "h"))
  | ((with_reducible refine' Kp.sqT ?ha ?hb); (case ha => assumption); (case hb => walk_at "h"))
  | ((with_reducible refine' Kp.tp ?ha ?hb); (case ha => assumption); (case hb => walk_at "h"))
  | ((with_reducible refine' Kp.src ?ha ?hb ?hc ?hd); (case ha => assumption); (case hb => walk_at "h"); (case hc => walk_at "n"); (case hd => walk_at "n"))
  | ((with_reducible refine' Kp.scr ?ha ?hb ?hc); (case ha => assumption); (case hb => walk_at "h"); (case hc => walk_at "n"))
  | ((with_reducible refine' Kp.td ?ha ?hb); (case ha => assumption); (case hb => walk_at "h"))
  | exact Dp.int _
  | exact Dp.str _
  | ((with_reducible refine' Td.dp ?ha); (case ha => walk_at "h"))
  | ((with_reducible refine' Kp.dp ?ha ?hb); (case hb => assumption); (case ha => walk_at "k"))
  | ((with_reducible refine' Kp.dpA ?ha ?hb); (case hb => assumption); (case ha => walk_at "k"))
  | ((with_reducible refine' Kp.tdA ?ha ?hb); (case ha => assumption); (case hb => walk_at "h"))
  | ((with_reducible refine' Kp.at_ ?ha ?hb ?hc); (case ha => assumption); (case hb => walk_at "h"); (case hc => walk_at "n"))
  | ((with_reducible refine' Kp.sqL ?ha ?hb ?hc); (case ha => assumption); (case hb => walk_at "h"); (case hc => walk_at "n"))
  | ((with_reducible refine' SqL.of ?ha); (case ha => walk_at "h")))
local macro_rules | `(tactic| walk_at "g") => `(tactic| first
  | ((with_reducible refine' g_var ?ha ?_); (case ha => rfl))
  | with_reducible refine' g_seq ?_
  | with_reducible refine' g_asg ?_
  | with_reducible refine' g_ret ?_
  | with_reducible refine' g_retN ?_
  | with_reducible refine' g_ifS ?_
  | with_reducible refine' g_drop ?_
  | with_reducible refine' g_next ?_
  | with_reducible refine' g_c ?_
  | with_reducible refine' g_op ?_
  | with_reducible refine' g_un ?_
  | with_reducible refine' g_rI0 ?_
  | with_reducible refine' g_rU ?_
  | with_reducible refine' g_rEqI ?_
  | with_reducible refine' g_rNeI ?_
  | with_reducible refine' g_rEqS ?_
  | with_reducible refine' g_rNeS ?_
  | with_reducible refine' g_nil ?_
  | with_reducible refine' g_cons ?_
  | with_reducible refine' g_tTest ?_
  | with_reducible refine' g_tB ?_
  | with_reducible refine' g_xBl ?_
  | with_reducible refine' g_xInt ?_
  | with_reducible refine' g_and ?_
  | with_reducible refine' g_or ?_
  | with_reducible refine' g_not ?_
  | with_reducible refine' g_cNot ?_
  | with_reducible refine' g_andV ?_
  | with_reducible refine' g_orV ?_
  | with_reducible refine' g_notV ?_
  | with_reducible refine' g_xNot ?_
  | with_reducible refine' g_xIf ?_
  | with_reducible refine' g_tIf ?_
  | with_reducible refine' g_call ?_
  | with_reducible refine' g_cb ?_
  | with_reducible refine' g_tup ?_
  | with_reducible refine' g_lst ?_
  | with_reducible refine' g_sl ?_
  | with_reducible refine' g_noPart ?_
  | with_reducible refine' g_part ?_
  | with_reducible refine' g_fld ?_
  | with_reducible refine' g_par ?_
  | with_reducible refine' g_xPar ?_
  | with_reducible refine' g_par3 ?_
  | with_reducible refine' g_xPar3 ?_
  | with_reducible refine' g_star ?_
  | with_reducible refine' g_bm ?_
  | with_reducible refine' g_bm0 ?_
  | with_reducible refine' g_asgG ?_
  | with_reducible refine' g_gSub ?_
  | with_reducible refine' g_int1 ?_
  | with_reducible refine' g_max2 ?_
  | with_reducible refine' g_min2 ?_
  | with_reducible refine' g_abs ?_
  | with_reducible refine' g_for ?_
  | with_reducible refine' g_rIsN ?_
  | with_reducible refine' g_rNotN ?_
  | with_reducible refine' g_setF ?_
  | with_reducible refine' g_make ?_
  | with_reducible refine' g_iEnumT ?_
  | with_reducible refine' g_dnotin ?_
  | with_reducible refine' g_xDNI ?_
  | with_reducible refine' g_dput ?_
  | with_reducible refine' g_xDP ?_
  | with_reducible refine' g_xDP2 ?_
  | with_reducible refine' g_dget2 ?_
  | with_reducible refine' g_xDG2 ?_
  | with_reducible refine' g_dnewT ?_
  | with_reducible refine' g_iZipA ?_
  | ((with_reducible refine' g_xDNI2 ?ha ?hb ?_); (case ha => walk_at "h"); (case hb => walk_at "h"))
  | ((with_reducible refine' g_xDP3 ?ha ?hb ?hc ?_); (case ha => walk_at "h"); (case hb => walk_at "h"); (case hc => omega))
  | ((with_reducible refine' g_xDG ?ha ?_); (case ha => walk_at "h"))
  | ((with_reducible refine' g_xDG3 ?ha ?hb ?_); (case ha => walk_at "h"); (case hb => walk_at "h"))
  | with_reducible refine' g_me ?_
  | with_reducible refine' g_pr ?_
  | with_reducible refine' g_callS ?_
  | with_reducible refine' g_LZ ?_
  | with_reducible refine' g_dropN ?_
  | with_reducible refine' g_meS ?_
  | with_reducible refine' g_makeS ?_
  | with_reducible refine' g_addS ?_
  | with_reducible refine' g_xf ?_
  | with_reducible refine' g_chain ?_
  | with_reducible refine' g_iList ?_
  | with_reducible refine' g_iTup ?_
  | with_reducible refine' g_iRng1 ?_
  | with_reducible refine' g_iRng2 ?_
  | with_reducible refine' g_gName ?_
  | with_reducible refine' g_gCons ?_
  | with_reducible refine' g_gNil ?_
  | with_reducible refine' g_lc ?_
  | with_reducible refine' g_yes ?_
  | with_reducible refine' g_whT ?_
  | with_reducible refine' g_whF ?_
  | ((with_reducible refine' g_xItl ?ha ?_); (case ha => walk_at "h"))
  | ((with_reducible refine' g_xItt ?ha ?_); (case ha => walk_at "h"))
  | ((with_reducible refine' g_listL ?ha ?_); (case ha => walk_at "h"))
  | ((with_reducible refine' g_listT ?ha ?_); (case ha => walk_at "h"))
  | ((with_reducible refine' g_tupL ?ha ?_); (case ha => walk_at "h"))
  | ((with_reducible refine' g_inT ?ha ?hb ?hc ?_); (case ha => walk_at "h"); (case hb => rfl); (case hc => rfl))
  | ((with_reducible refine' g_ninT ?ha ?hb ?hc ?_); (case ha => walk_at "h"); (case hb => rfl); (case hc => rfl))
  | ((with_reducible refine' g_slA ?ha ?_); (case ha => walk_at "h"))
  | ((with_reducible refine' g_slL ?ha ?_); (case ha => walk_at "h"))
  | ((with_reducible refine' g_mkT ?ha ?_); (case ha => exact lenOk rfl))
  | ((with_reducible refine' g_mkL ?ha ?_); (case ha => exact lenOk rfl))
  | ((with_reducible refine' ap_next ?ha ?hb ?hc ?_); (case ha => walk_at "h"); (case hb => omega); (case hc => omega))
  | ((with_reducible refine' ap_pick ?ha ?hb ?hc ?hd ?he ?hf ?_); (case ha => walk_at "h"); (case hb => walk_at "h"); (case hc => walk_at "ne"); (case hd => walk_at "ne"); (case he => exact Nat.lt_of_sub_eq_succ rfl); (case hf => exact Nat.le_of_ble_eq_true rfl))
  | ((with_reducible refine' ap_plain ?ha ?hb ?hc ?_); (case ha => walk_at "h"); (case hb => omega); (case hc => omega))
  | ((with_reducible refine' ap_step ?ha ?hb ?hc ?_); (case ha => walk_at "h"); (case hb => omega); (case hc => omega))
  | ((with_reducible refine' ap_steps ?ha ?hb ?hc ?hd ?_); (case ha => walk_at "h"); (case hb => omega); (case hc => omega); (case hd => omega))
  | ((with_reducible refine' ap_isInt ?ha ?_); (case ha => walk_at "h"))
  | ((with_reducible refine' ap_isPlain ?ha ?hb ?_); (case ha => walk_at "h"); (case hb => walk_at "h"))
  | ((with_reducible refine' ap_arePlain ?ha ?hb ?hc ?_); (case ha => walk_at "h"); (case hb => assumption); (case hc => assumption))
  | ((with_reducible refine' ap_isStep ?ha ?hb ?hc ?_); (case ha => walk_at "h"); (case hb => assumption); (case hc => assumption))
  | ((with_reducible refine' g_xEnumT ?ha ?_); (case ha => walk_at "h"))
  | ((with_reducible refine' g_many ?ha ?hb ?_); (case ha => assumption); (case hb => walk_at "h"))
  | ((with_reducible refine' g_rows ?ha ?hb ?_); (case ha => assumption); (case hb => walk_at "h"))
  | ((with_reducible refine' ap_wheels ?ha ?_); (case ha => walk_at "h"))
  | ((with_reducible refine' g_xTurn ?ha ?_); (case ha => rfl))
  | ((with_reducible refine' g_gTup ?ha ?hb ?_); (case ha => walk_at "h"); (case hb => rfl))
  | ((with_reducible refine' g_rEq ?ha ?_); (case ha => rfl))
  | ((with_reducible refine' g_rNe ?ha ?_); (case ha => rfl))
  | ((with_reducible refine' g_ixT ?ha ?hb ?_); (case ha => walk_at "h"); (case hb => first | rfl | exact atI_at (j := 0) (by decide) rfl | exact atI_at (j := 1) (by decide) rfl | exact atI_at (j := 2) (by decide) rfl | exact atI_at (j := 3) (by decide) rfl))
  | ((with_reducible refine' g_ixL ?ha ?hb ?_); (case ha => walk_at "h"); (case hb => first | rfl | exact atI_at (j := 0) (by decide) rfl | exact atI_at (j := 1) (by decide) rfl | exact atI_at (j := 2) (by decide) rfl | exact atI_at (j := 3) (by decide) rfl))
  | ((with_reducible refine' g_lenL ?ha ?_); (case ha => walk_at "h"))
  | ((with_reducible refine' g_lenT ?ha ?_); (case ha => walk_at "h"))
  | ((with_reducible refine' g_xStarT ?ha ?_); (case ha => walk_at "h"))
  | ((with_reducible refine' g_xStarL ?ha ?_); (case ha => walk_at "h"))
  | ((with_reducible refine' g_xBML ?ha ?_); (case ha => walk_at "h"))
  | ((with_reducible refine' g_xBM0L ?ha ?_); (case ha => walk_at "h"))
  | ((with_reducible refine' g_setL ?ha ?hb ?_); (case ha => walk_at "h"); (case hb => rfl))
  | ((with_reducible refine' g_rI ?ha ?_); (case ha => first | exact Or.inr ⟨by decide, by decide⟩ | exact Or.inl ⟨by decide, by decide⟩ | (show (0 : Int) < _; first | decide | omega) | exact ⟨by decide, by decide +kernel⟩ | exact ⟨by decide, by decide, by decide⟩))
  | ((with_reducible refine' g_then ?ha ?_); (case ha => first | decide +kernel | rfl))
  | ((with_reducible refine' g_else ?ha ?_); (case ha => first | decide +kernel | rfl))
  | dsimp only)
local macro_rules | `(tactic| walk_at "gs") => `(tactic| repeat (walk_at "g"))
theorem next_at (ns : List Int) (ix : Int) : ∃ (c : Int), atI (vI ns ++ [V.int 0]) (ix % (if (((vI ns).length : Nat) : Int) > 1 then (((vI ns).length : Nat) : Int) else 1)) = some (.int c) ∧ (c = 0 ∨ 0 < ns.length) := by
  rw [vI_length]
  cases ns with
  | nil =>
    refine ⟨0, ?_, .inl rfl⟩
    rw [if_neg (by simp), Int.emod_one]
    rfl
  | cons a r =>
    have hp : (0 : Int) < (((a :: r).length : Nat) : Int) := by
      rw [List.length_cons]
      omega
    have e : (if (((a :: r).length : Nat) : Int) > 1 then (((a :: r).length : Nat) : Int) else 1) = (((a :: r).length : Nat) : Int) := by
      split <;> omega
    rw [e]
    have h1 := Int.emod_nonneg ix (Int.ne_of_gt hp)
    have h2 := Int.emod_lt_of_pos ix hp
    obtain ⟨j, hj⟩ : ∃ j : Nat, ix % (((a :: r).length : Nat) : Int) = (j : Int) := ⟨_, (Int.toNat_of_nonneg h1).symm⟩
    rw [hj] at h2 ⊢
    have hl : j < (a :: r).length := by omega
    refine ⟨(a :: r)[j], atI_nat ?_, .inr (by rw [List.length_cons]; omega)⟩
    rw [List.getElem?_append_left (by rw [vI_length]; exact hl)]
    exact vI_get (List.getElem?_eq_getElem hl)
theorem vI_int {ns : List Int} {i : Nat} {x : V} (h : (vI ns)[i]? = some x) : ∃ z, x = .int z := by
  unfold vI at h
  rw [List.getElem?_map] at h
  cases e : ns[i]? with
  | none =>
    rw [e] at h
    cases h
  | some z =>
    rw [e] at h
    exact ⟨z, (Option.some.inj h).symm⟩
abbrev s_law_next : Stmt := topS 62
abbrev n_law_next : List Str := ["_law_h", "_law_cap", "_law_cell"]
theorem sc_law_next : FnScope n_law_next ["_law_h", "_law_cap"] (defScope s_law_next) := ⟨rfl, rfl, rfl, by decide +kernel, rfl, by decide +kernel, by decide +kernel⟩
abbrev s_law_mix : Stmt := topS 61
abbrev n_law_mix : List Str := ["_law_script", "_law_seed", "_law_state", "_law_cell"]
theorem sc_law_mix : FnScope n_law_mix ["_law_script", "_law_seed"] (defScope s_law_mix) := ⟨rfl, rfl, rfl, by decide +kernel, rfl, by decide +kernel, by decide +kernel⟩
abbrev s_law_pick : Stmt := topS 64
abbrev n_law_pick : List Str := ["_law_h", "_law_things"]
theorem sc_law_pick : FnScope n_law_pick ["_law_h", "_law_things"] (defScope s_law_pick) := ⟨rfl, rfl, rfl, by decide +kernel, rfl, by decide +kernel, by decide +kernel⟩
abbrev s_law_plain : Stmt := topS 65
abbrev n_law_plain : List Str := ["_law_h", "_law_wheels", "_law_wheel", "_law_by"]
theorem sc_law_plain : FnScope n_law_plain ["_law_h", "_law_wheels"] (defScope s_law_plain) := ⟨rfl, rfl, rfl, by decide +kernel, rfl, by decide +kernel, by decide +kernel⟩
abbrev s_law_step : Stmt := topS 66
abbrev n_law_step : List Str := ["_law_h", "_law_wheels", "_law_one", "_law_other", "_law_first", "_law_k"]
theorem sc_law_step : FnScope n_law_step ["_law_h", "_law_wheels"] (defScope s_law_step) := ⟨rfl, rfl, rfl, by decide +kernel, rfl, by decide +kernel, by decide +kernel⟩
abbrev s_law_many : Stmt := topS 67
abbrev n_law_many : List Str := ["_law_steps_here", "_law_step_here"]
theorem sc_law_many : FnScope n_law_many ["_law_steps_here"] (defScope s_law_many) := ⟨rfl, rfl, rfl, by decide +kernel, rfl, by decide +kernel, by decide +kernel⟩
abbrev s_law_steps : Stmt := topS 68
abbrev n_law_steps : List Str := ["_law_h", "_law_wheels", "_law_most", "_law_found", "_law_k", "_law_step_here"]
theorem sc_law_steps : FnScope n_law_steps ["_law_h", "_law_wheels", "_law_most"] (defScope s_law_steps) := ⟨rfl, rfl, rfl, by decide +kernel, rfl, by decide +kernel, by decide +kernel⟩
theorem pick_word {v : V} (h : v ∈ [V.str "on", V.str "on", V.str "back", V.str "none"]) : ∃ k : Wd, v = .str k.s := by
  simp only [List.mem_cons, List.not_mem_nil, or_false] at h
  rcases h with rfl | rfl | rfl | rfl
  · exact ⟨.on, rfl⟩
  · exact ⟨.on, rfl⟩
  · exact ⟨.back, rfl⟩
  · exact ⟨.no, rfl⟩
theorem pick_by {v : V} (h : v ∈ [V.int 1, V.int 1, V.int (-1), V.int (-1), V.int 2, V.int (-2)]) : ∃ b : Int, (b = -2 ∨ b = -1 ∨ b = 1 ∨ b = 2) ∧ v = .int b := by
  simp only [List.mem_cons, List.not_mem_nil, or_false] at h
  rcases h with rfl | rfl | rfl | rfl | rfl | rfl
  all_goals exact ⟨_, by decide, rfl⟩
theorem pick_by2 {v : V} (h : v ∈ [V.int 1, V.int (-1)]) : v ∈ [V.int 1, V.int 1, V.int (-1), V.int (-1), V.int 2, V.int (-2)] := by
  simp only [List.mem_cons, List.not_mem_nil, or_false] at h ⊢
  rcases h with rfl | rfl <;> simp
section
variable {P : Program} {w : World} {K : PySem.W.Frag} {mg : Str → Option Value} {base : Heap} {f : Addr} {fd : FuncData}
theorem ok_next (F : Fun K "_law_next" "_law_next" s_law_next f fd) (N : Nm mg) : FnOk P w K mg base CX0 1 f fd ["_law_h", "_law_cap"] spNext := by
  have m_len := N.len
  have m_max := N.max
  have m_int := N.int
  refine F.ok sc_law_next (fun vs H Q E h => ?_) (fun cdv A outer s H vs Q E hr h => ?_)
  · obtain ⟨h, q, cap, rfl, _⟩ := h
    rfl
  obtain ⟨h, q, cap, rfl, ⟨st, ns, ix, e1, e2, hl, h0⟩, c0, c1, k⟩ := h
  have hq : q ≠ h := ne_of e2 e1 fun z => by
    cases ns with
    | nil => cases z
    | cons a r => cases r with
      | nil => cases z
      | cons b r => cases z
  refine ⟨_, (pss_cons (ps_set (i := 2) sc_law_next.nd rfl (by first | exact Or.inl rfl | exact Or.inr rfl) (pe_ix (ix_listK (K := K)) (pe_op op_cat (pe_ix (ix_listK (K := K)) (pv 0) pe_int (fun _ _ => rfl)) (pe_lst (pa_cons pe_int pa_nil))) (pe_op op_mod (pe_callTy w_int (by rfl) m_int (by decide +kernel) (pa_cons (pe_ix (ix_listK (K := K)) (pv 0) pe_int (fun _ _ => rfl)) pa_nil)) (pe_callB (w_max2 (by rfl)) (by rfl) m_max (by decide +kernel) (pa_cons pe_int (pa_cons (pe_callB (w_lenK (K := K)) (by rfl) m_len (by decide +kernel) (pa_cons (pe_ix (ix_listK (K := K)) (pv 0) pe_int (fun _ _ => rfl)) pa_nil)) pa_nil)))) (fun _ _ => rfl)))
      (pss_cons (ps_if (pt_cmpR op_ge (pv 2) (pe_op op_pow pe_int pe_int) (nomark _)) (pss_cons (ps_asg (pe_op op_fdivW (pv 2) (pv 1)) (pg_sub (pe_ix (ix_listK (K := K)) (pv 0) pe_int (fun _ _ => rfl)) (pe_op op_mod (pe_callTy w_int (by rfl) m_int (by decide +kernel) (pa_cons (pe_ix (ix_listK (K := K)) (pv 0) pe_int (fun _ _ => rfl)) pa_nil)) (pe_callB (w_lenK (K := K)) (by rfl) m_len (by decide +kernel) (pa_cons (pe_ix (ix_listK (K := K)) (pv 0) pe_int (fun _ _ => rfl)) pa_nil))) set_list))
      (pss_one (ps_ret (pe_op op_mod (pe_callTy w_int (by rfl) m_int (by decide +kernel) (pa_cons (pv 2) pa_nil)) (pv 1))))) pss_nil)
      (pss_cons (ps_asg (pe_op op_mod (pe_callTy w_int (by rfl) m_int (by decide +kernel) (pa_cons (pe_op op_add (pe_op op_add (pe_op op_mul (pe_ix (ix_listK (K := K)) (pv 0) pe_int (fun _ _ => rfl)) pe_int) (pe_op op_mul (pv 2) pe_int)) pe_int) pa_nil)) pe_int) (pg_sub (pv 0) pe_int set_list))
      (pss_cons (ps_asg (pe_op op_add (pe_ix (ix_listK (K := K)) (pv 0) pe_int (fun _ _ => rfl)) pe_int) (pg_sub (pv 0) pe_int set_list))
      (pss_one (ps_ret (pe_op op_mod (pe_callTy w_int (by rfl) m_int (by decide +kernel) (pa_cons (pe_op op_fdivW (pe_ix (ix_listK (K := K)) (pv 0) pe_int (fun _ _ => rfl)) pe_int) pa_nil)) (pv 1)))))))), ?_⟩
  try dsimp only [nox_K]
  walk_at "gs"
  intro z1 H1 n1 k1 x1
  walk_at "gs"
  refine g_cat (xs := vI ns) (ys := [V.int 0]) (by walk_at "h") (by walk_at "h") (by simp [vI]; omega) fun z2 H2 n2 k2 x2 => ?_
  walk_at "gs"
  obtain ⟨c, hc, hz⟩ := next_at ns ix
  refine g_ixL (by walk_at "h") hc ?_
  walk_at "gs"
  refine g_both (fun c2 => ?_) (fun c2 => ?_)
  · have c3 : (10 : Int) ^ (Int.toNat 18) = 1000000000000000000 := by decide
    rw [c3] at c2
    have hn : 0 < ns.length := by omega
    walk_at "gs"
    refine g_rI (wide_div (b := 60) c0 (by omega) (by decide) (by decide)) ?_
    walk_at "gs"
    have hp : (0 : Int) < (((vI ns).length : Nat) : Int) := by
      rw [vI_length]
      omega
    refine g_rI hp ?_
    have h1 := Int.emod_nonneg ix (Int.ne_of_gt hp)
    have h2 := Int.emod_lt_of_pos ix hp
    obtain ⟨j, hj⟩ : ∃ j : Nat, ix % (((vI ns).length : Nat) : Int) = (j : Int) := ⟨_, (Int.toNat_of_nonneg h1).symm⟩
    rw [hj] at h2
    refine g_setL (j := j) (by walk_at "h") (ixN_at hj (by omega)) fun H3 k3 x3 => ?_
    walk_at "gs"
    refine k _ H3 (Int.emod_nonneg _ (by omega)) (Int.emod_lt_of_pos _ c0) (by walk_at "k") ⟨st, ns.set j (c / cap), ix, by walk_at "h", ?_, by simpa using hl, h0⟩
    rw [x3]
    unfold vI
    rw [List.map_set]
  · walk_at "gs"
    intro H3 k3 x3
    walk_at "gs"
    intro H4 k4 x4
    walk_at "gs"
    refine k _ H4 (Int.emod_nonneg _ (by omega)) (Int.emod_lt_of_pos _ c0) (by walk_at "k") ⟨_, ns, ix + 1, x4, by walk_at "h", hl, by omega⟩

theorem ok_mix (F : Fun K "_law_mix" "_law_mix" s_law_mix f fd) (N : Nm mg) : FnOk P w K mg base CX0 1 f fd ["_law_script", "_law_seed"] (spMix K) := by
  have m_int := N.int
  have m_list := N.list
  refine F.ok sc_law_mix (fun vs H Q E h => ?_) (fun cdv A outer s H vs Q E hr h => ?_)
  · obtain ⟨_, _, _, rfl, _⟩ := h
    rfl
  obtain ⟨a, ns, sd, rfl, hS, hl, k⟩ := h
  refine ⟨_, (pss_cons (ps_set (i := 2) sc_law_mix.nd rfl (by first | exact Or.inl rfl | exact Or.inr rfl) (pv 1))
      (pss_cons (ps_for PassesOwn.never rfl (pi_listK (K := K) (pv 0)) (pg_name (i := 3) sc_law_mix.nd rfl (by first | exact Or.inl rfl | exact Or.inr rfl)) (pss_one (ps_set (i := 2) sc_law_mix.nd rfl (by first | exact Or.inl rfl | exact Or.inr rfl) (pe_op op_mod (pe_callTy w_int (by rfl) m_int (by decide +kernel) (pa_cons (pe_op op_add (pe_op op_add (pe_op op_mul (pv 2) pe_int) (pe_op op_mod (pe_callTy w_int (by rfl) m_int (by decide +kernel) (pa_cons (pv 3) pa_nil)) pe_int)) pe_int) pa_nil)) pe_int))))
      (pss_one (ps_ret (pe_lst (pa_cons (pv 2) (pa_cons (pe_callTy (w_listK (K := K)) (by rfl) m_list (by decide +kernel) (pa_cons (pv 0) pa_nil)) (pa_cons pe_int pa_nil)))))))), ?_⟩
  try dsimp only [nox_K]
  walk_at "gs"
  refine g_loopL (xs := vI ns) (fun i σ' H' => H' = H ∧ ∃ st y, σ' = [some (.ref a), some (.int sd), some (.int st), y]) ⟨rfl, _, _, rfl⟩ (fun i σ' H' _ ⟨e, _⟩ => e ▸ hS) ?_ ?_
  · rintro i x σ' H' hx ⟨rfl, st, y, rfl⟩
    obtain ⟨z, rfl⟩ := vI_int hx
    walk_at "gs"
    exact ⟨rfl, _, _, rfl⟩
  · rintro σ' H' ⟨rfl, st, y, rfl⟩
    walk_at "gs"
    intro q H1 nq k1 e1
    walk_at "gs"
    intro h H2 nh k2 e2
    exact k h q H2 (by walk_at "no") nq (by walk_at "k") ⟨st, ns, 0, e2, by walk_at "h", hl, Int.le_refl 0⟩
theorem ok_pick (F : Fun K "_law_pick" "_law_pick" s_law_pick f fd) (N : Nm mg) (c_law_next : Cal CX0 P w K mg base 1 "_law_next" spNext) : FnOk P w K mg base CX0 2 f fd ["_law_h", "_law_things"] spPick := by
  have m_len := N.len
  refine F.ok sc_law_pick (fun vs H Q E h => ?_) (fun cdv A outer s H vs Q E hr h => ?_)
  · obtain ⟨_, _, _, _, rfl, _⟩ := h
    rfl
  obtain ⟨h, q, l, xs, rfl, hS, hL, n1, n2, h0, h1, k⟩ := h
  refine ⟨_, (pss_one (ps_ret (pe_ix (ix_listK (K := K)) (pv 1) (pe_c c_law_next hr (by first | decide | omega) (by rfl) (pa_cons (pv 0) (pa_cons (pe_callB (w_lenK (K := K)) (by rfl) m_len (by decide +kernel) (pa_cons (pv 1) pa_nil)) pa_nil))) (fun _ _ => rfl)))), ?_⟩
  try dsimp only [nox_K]
  walk_at "gs"
  intro r H1 r0 r1 k1 s1
  obtain ⟨j, rfl⟩ : ∃ j : Nat, r = (j : Int) := ⟨_, (Int.toNat_of_nonneg r0).symm⟩
  have hj : j < xs.length := by omega
  refine g_ixL (by walk_at "h") (atI_nat (List.getElem?_eq_getElem hj)) ?_
  walk_at "gs"
  exact k _ _ (List.getElem_mem hj) k1 s1
theorem ok_plain (F : Fun K "_law_plain" "_law_plain" s_law_plain f fd) (N : Nm mg) (c_law_next : Cal CX0 P w K mg base 1 "_law_next" spNext) (c_law_pick : Cal CX0 P w K mg base 2 "_law_pick" spPick) : FnOk P w K mg base CX0 3 f fd ["_law_h", "_law_wheels"] (spPlain K) := by
  refine F.ok sc_law_plain (fun vs H Q E h => ?_) (fun cdv A outer s H vs Q E hr h => ?_)
  · obtain ⟨_, _, _, rfl, _⟩ := h
    rfl
  obtain ⟨h, q, n, rfl, hS, h1, h3, k⟩ := h
  refine ⟨_, (pss_cons (ps_set (i := 2) sc_law_plain.nd rfl (by first | exact Or.inl rfl | exact Or.inr rfl) (pe_c c_law_next hr (by first | decide | omega) (by rfl) (pa_cons (pv 0) (pa_cons (pv 1) pa_nil))))
      (pss_cons (ps_if (pt_cmpR op_eq (pe_c c_law_next hr (by first | decide | omega) (by rfl) (pa_cons (pv 0) (pa_cons pe_int pa_nil))) pe_int (nomark _)) (pss_one (ps_ret (pe_tup (pa_cons pe_str (pa_cons (pv 2) (pa_cons (pe_op op_sub (pe_c c_law_next hr (by first | decide | omega) (by rfl) (pa_cons (pv 0) (pa_cons pe_int pa_nil))) pe_int) pa_nil)))))) pss_nil)
      (pss_cons (ps_set (i := 3) sc_law_plain.nd rfl (by first | exact Or.inl rfl | exact Or.inr rfl) (pe_c c_law_pick hr (by first | decide | omega) (by rfl) (pa_cons (pv 0) (pa_cons (pe_ifExp (pt_cmpR op_eq (pv 1) pe_int (nomark _)) (pe_lst (pa_cons pe_int (pa_cons (pe_un un_neg pe_int) pa_nil))) (pe_lst (pa_cons pe_int (pa_cons pe_int (pa_cons (pe_un un_neg pe_int) (pa_cons (pe_un un_neg pe_int) (pa_cons pe_int (pa_cons (pe_un un_neg pe_int) pa_nil)))))))) pa_nil))))
      (pss_one (ps_ret (pe_tup (pa_cons pe_str (pa_cons (pv 2) (pa_cons (pv 3) (pa_cons (pe_c c_law_pick hr (by first | decide | omega) (by rfl) (pa_cons (pv 0) (pa_cons (pe_lst (pa_cons pe_str (pa_cons pe_str (pa_cons pe_str (pa_cons pe_str pa_nil))))) pa_nil))) pa_nil)))))))))), ?_⟩
  try dsimp only [nox_K]
  walk_at "gs"
  intro r H1 r0 r1 k1 s1
  obtain ⟨w, rfl⟩ : ∃ j : Nat, r = (j : Int) := ⟨_, (Int.toNat_of_nonneg r0).symm⟩
  have hw : w < n := by omega
  walk_at "gs"
  intro r2 H2 r20 r21 k2 s2
  walk_at "gs"
  refine g_both (fun c => ?_) (fun c => ?_)
  · walk_at "gs"
    intro r3 H3 r30 r31 k3 s3
    walk_at "gs"
    intro p H4 np k4 e4
    walk_at "gs"
    exact k (.set w (r3 - 2)) _ _ ⟨hw, by omega, by omega⟩ (td_mk_set (SqT.of e4)) (by walk_at "k") (by walk_at "h")
  · walk_at "gs"
    refine g_both (fun c => ?_) (fun c => ?_)
    all_goals
      walk_at "gs"
      intro l1 H3 nl1 k3 e3
      walk_at "gs"
      intro by_ H4 hb k4 s4
      walk_at "gs"
      intro l2 H5 nl2 k5 e5
      walk_at "gs"
      intro wd H6 hwd k6 s6
      walk_at "gs"
      intro p H7 np k7 e7
      obtain ⟨kd, rfl⟩ := pick_word hwd
      obtain ⟨b, hb', rfl⟩ := pick_by (by first | exact hb | exact pick_by2 hb)
      exact k (.turn w b kd) _ _ ⟨hw, hb'⟩ (td_mk_turn (SqT.of e7)) (by walk_at "k") (by walk_at "h")
theorem ok_step (F : Fun K "_law_step" "_law_step" s_law_step f fd) (N : Nm mg) (c_law_next : Cal CX0 P w K mg base 1 "_law_next" spNext) (c_law_plain : Cal CX0 P w K mg base 3 "_law_plain" (spPlain K)) : FnOk P w K mg base CX0 4 f fd ["_law_h", "_law_wheels"] (spStep K) := by
  have m_range := N.range
  have m_tuple := N.tuple
  refine F.ok sc_law_step (fun vs H Q E h => ?_) (fun cdv A outer s H vs Q E hr h => ?_)
  · obtain ⟨_, _, _, rfl, _⟩ := h
    rfl
  obtain ⟨h, q, n, rfl, hS, h1, h3, k⟩ := h
  refine ⟨_, (pss_cons (ps_if (PW.pt (pw_or (pt_cmpR op_eq (pv 1) pe_int (nomark _)) (pw_or1 (pt_cmpR op_gt (pe_c c_law_next hr (by first | decide | omega) (by rfl) (pa_cons (pv 0) (pa_cons pe_int pa_nil))) pe_int (nomark _))))) (pss_one (ps_ret (pe_c c_law_plain hr (by first | decide | omega) (by rfl) (pa_cons (pv 0) (pa_cons (pv 1) pa_nil))))) pss_nil)
      (pss_cons (ps_set (i := 2) sc_law_step.nd rfl (by first | exact Or.inl rfl | exact Or.inr rfl) (pe_c c_law_next hr (by first | decide | omega) (by rfl) (pa_cons (pv 0) (pa_cons (pe_op op_sub (pv 1) pe_int) pa_nil))))
      (pss_cons (ps_set (i := 3) sc_law_step.nd rfl (by first | exact Or.inl rfl | exact Or.inr rfl) (pe_op op_add (pe_op op_add (pv 2) pe_int) (pe_c c_law_next hr (by first | decide | omega) (by rfl) (pa_cons (pv 0) (pa_cons (pe_op op_sub (pe_op op_sub (pv 1) pe_int) (pv 2)) pa_nil)))))
      (pss_cons (ps_set (i := 4) sc_law_step.nd rfl (by first | exact Or.inl rfl | exact Or.inr rfl) (pe_callTy (w_tupleK (K := K)) (by rfl) m_tuple (by decide +kernel) (pa_cons (pe_lc (own := [("_law_k", 5)]) (tt := tYes) (by rfl) sc_law_step.nd (pi_range1 (by rfl) m_range (pa_cons (pe_c c_law_next hr (by first | decide | omega) (by rfl) (pa_cons (pv 0) (pa_cons pe_int pa_nil))) pa_nil)) (blkOk_by (own := [("_law_k", 5)]) (N := n_law_step) (sc := defScope s_law_step) (by decide +kernel)) (fun _ _ _ _ _ => (pg_name (i := 5) sc_law_step.nd rfl (by first | exact Or.inl rfl | exact Or.inr rfl))) (fun _ _ _ _ _ => pts_nil) (fun _ _ _ _ _ => (pe_c c_law_plain hr (by first | decide | omega) (by rfl) (pa_cons (pv 0) (pa_cons (pv 1) pa_nil))))) pa_nil)))
      (pss_one (ps_ret (pe_tup (pa_cons pe_str (pa_cons (pv 2) (pa_cons (pv 3) (pa_cons (pv 4) (pa_cons (pe_callTy (w_tupleK (K := K)) (by rfl) m_tuple (by decide +kernel) (pa_cons (pe_lc (own := [("_law_k", 5)]) (tt := tYes) (by rfl) sc_law_step.nd (pi_range1 (by rfl) m_range (pa_cons (pe_c c_law_next hr (by first | decide | omega) (by rfl) (pa_cons (pv 0) (pa_cons pe_int pa_nil))) pa_nil)) (blkOk_by (own := [("_law_k", 5)]) (N := n_law_step) (sc := defScope s_law_step) (by decide +kernel)) (fun _ _ _ _ _ => (pg_name (i := 5) sc_law_step.nd rfl (by first | exact Or.inl rfl | exact Or.inr rfl))) (fun _ _ _ _ _ => pts_nil) (fun _ _ _ _ _ => (pe_c c_law_plain hr (by first | decide | omega) (by rfl) (pa_cons (pv 0) (pa_cons (pv 1) pa_nil))))) pa_nil)) pa_nil)))))))))))), ?_⟩
  try dsimp only [nox_K]
  walk_at "gs"
  refine g_both (fun c => ?_) (fun c => ?_)
  · walk_at "gs"
    exact fun p v H' ok t k' s' => k (.pl p) v H' ok (by show 1 ≤ 3; decide) t k' s'
  walk_at "gs"
  intro r H1 r0 r1 k1 s1
  walk_at "gs"
  refine g_both (fun c2 => ?_) (fun c2 => ?_)
  · walk_at "gs"
    exact fun p v H' ok t k' s' => k (.pl p) v H' ok (by show 1 ≤ 3; decide) t (by walk_at "k") s'
  walk_at "gs"
  intro one H2 o0 o1 k2 s2
  walk_at "gs"
  intro d H3 d0 d1 k3 s3
  walk_at "gs"
  intro m H4 m0 m1 k4 s4
  walk_at "gs"
  refine g_xRng1 (by omega) (by omega) ?_
  refine g_compR (fun D i acc H' => ∃ fs : List Pl, TdA K H' acc (fs.map Pl.dat) ∧ (∀ p ∈ fs, p.ok n) ∧ fs.length = i ∧ Kp [h, q] H4 H' ∧ Src H' h q) (fun D H' nD k' => ⟨[], .nil, by simp, rfl, by walk_at "k", by walk_at "h"⟩) ?_ ?_
  · rintro D i acc H' nD hi eD ⟨fs, ta, hok, hl, k', s'⟩
    walk_at "gs"
    intro p v H5 hp tp k5 s5
    refine g_xEl (by walk_at "h") (by have := ta.length; simp at this; omega) fun H6 k6 e6 => ?_
    refine ⟨fs ++ [p], ?_, ?_, by simp [hl], by walk_at "k", by walk_at "h"⟩
    · rw [List.map_append]
      exact TdA.app (by walk_at "h") (.cons (by walk_at "h") .nil)
    · intro p' hp'
      rcases List.mem_append.mp hp' with z | z
      · exact hok p' z
      · rw [List.mem_singleton.mp z]
        exact hp
  rintro D acc H5 nD eD ⟨fs, ta, hok, hl, k5, s5⟩
  walk_at "gs"
  intro pf H6 npf k6 e6
  walk_at "gs"
  intro m' H7 m0' m1' k7 s7
  walk_at "gs"
  refine g_xRng1 (by omega) (by omega) ?_
  refine g_compR (fun D i acc H' => ∃ fs : List Pl, TdA K H' acc (fs.map Pl.dat) ∧ (∀ p ∈ fs, p.ok n) ∧ fs.length = i ∧ Kp [h, q] H7 H' ∧ Src H' h q) (fun D H' nD k' => ⟨[], .nil, by simp, rfl, by walk_at "k", by walk_at "h"⟩) ?_ ?_
  · rintro D i acc H' nD hi eD ⟨fs, ta, hok, hl, k', s'⟩
    walk_at "gs"
    intro p v H5 hp tp k5 s5
    refine g_xEl (by walk_at "h") (by have := ta.length; simp at this; omega) fun H6 k6 e6 => ?_
    refine ⟨fs ++ [p], ?_, ?_, by simp [hl], by walk_at "k", by walk_at "h"⟩
    · rw [List.map_append]
      exact TdA.app (by walk_at "h") (.cons (by walk_at "h") .nil)
    · intro p' hp'
      rcases List.mem_append.mp hp' with z | z
      · exact hok p' z
      · rw [List.mem_singleton.mp z]
        exact hp
  rintro D2 acc2 H8 nD2 eD2 ⟨gs_, ta2, hok2, hl2, k8, s8⟩
  walk_at "gs"
  intro pg H9 npg k9 e9
  walk_at "gs"
  intro p H10 np k10 e10
  walk_at "gs"
  obtain ⟨a, rfl⟩ : ∃ j : Nat, one = (j : Int) := ⟨_, (Int.toNat_of_nonneg o0).symm⟩
  obtain ⟨b, rfl⟩ : ∃ j : Nat, d = (j : Int) := ⟨_, (Int.toNat_of_nonneg d0).symm⟩
  have eb : ((a : Int) + 1 + (b : Int)) = ((a + 1 + b : Nat) : Int) := by omega
  rw [eb] at e10
  refine k (.alike a (a + 1 + b) fs gs_) _ _ ⟨by omega, by omega, hok, hok2⟩ (by show 1 + fs.length + gs_.length ≤ 3; omega) (td_mk_alike (SqT.of e10) (xs := acc) (ys := acc2) (by walk_at "h") (by walk_at "h") (by walk_at "h") (by walk_at "h")) (by walk_at "k") (by walk_at "h")
theorem ok_many (F : Fun K "_law_many" "_law_many" s_law_many f fd) (N : Nm mg) : FnOk P w K mg base CX0 1 f fd ["_law_steps_here"] (spMany K) := by
  have m_len := N.len
  have m_sum := N.sum
  refine F.ok sc_law_many (fun vs H Q E h => ?_) (fun cdv A outer s H vs Q E hr h => ?_)
  · obtain ⟨_, _, _, rfl, _⟩ := h
    rfl
  obtain ⟨a, xs, l, rfl, hS, hT, hl, k⟩ := h
  refine ⟨_, (pss_one (ps_ret (pe_callB (cr_sumK (K := K) (by rfl)) (by rfl) m_sum (by decide +kernel) (pa_cons (pe_lc (own := [("_law_step_here", 1)]) (tt := tYes) (by rfl) sc_law_many.nd (pi_tupK (K := K) (pv 0)) (blkOk_by (own := [("_law_step_here", 1)]) (N := n_law_many) (sc := defScope s_law_many) (by decide +kernel)) (fun _ _ _ _ _ => (pg_name (i := 1) sc_law_many.nd rfl (by first | exact Or.inl rfl | exact Or.inr rfl))) (fun _ _ _ _ _ => pts_nil) (fun _ _ _ _ _ => (pe_ifExp (pt_cmpR op_eq (pe_ix (ix_tupK (K := K)) (pv 1) pe_int (fun _ _ => rfl)) pe_str (nomark _)) (pe_op op_add (pe_op op_add pe_int (pe_callB (w_lenK (K := K)) (by rfl) m_len (by decide +kernel) (pa_cons (pe_ix (ix_tupK (K := K)) (pv 1) pe_int (fun _ _ => rfl)) pa_nil))) (pe_callB (w_lenK (K := K)) (by rfl) m_len (by decide +kernel) (pa_cons (pe_ix (ix_tupK (K := K)) (pv 1) pe_int (fun _ _ => rfl)) pa_nil))) pe_int))) pa_nil)))), ?_⟩
  try dsimp only [nox_K]
  walk_at "gs"
  refine g_compT (xs := xs) (fun D i acc H' => Kp [] H H' ∧ acc = (l.take i).map fun s => V.int s.cnt) (fun D H1 nD k1 => ⟨k1, rfl⟩) (fun D i acc H' _ ⟨k1, _⟩ => by walk_at "h") ?_ ?_
  · rintro D i x acc H' nD hx eD ⟨k1, rfl⟩
    have hi : i < l.length := by
      have h1 := (List.getElem?_eq_some_iff.mp hx).1
      have h2 := hT.length
      simp at h2
      omega
    obtain ⟨x', hx', tx⟩ := (k1.tdA hT).get (i := i) (d := l[i].dat) (by simp [hi])
    rw [hx] at hx'
    cases hx'
    have et : (l.take (i + 1)).map (fun s => V.int s.cnt) = (l.take i).map (fun s => V.int s.cnt) ++ [V.int l[i].cnt] := by
      rw [List.take_add_one, List.getElem?_eq_getElem hi, List.map_append]
      rfl
    have hz : ((l.take i).map fun s => V.int s.cnt).length ≤ 1000000 := by
      simp
      omega
    cases e : l[i] with
    | pl p =>
      rw [e] at tx et
      cases p with
      | turn w b kd =>
        obtain ⟨p, rfl, hp⟩ := td_turn tx
        walk_at "gs"
        refine g_xEl eD hz fun H5 k5 e5 => ⟨by walk_at "k", ?_⟩
        rw [et]
        rfl
      | set w b =>
        obtain ⟨p, rfl, hp⟩ := td_set tx
        walk_at "gs"
        refine g_xEl eD hz fun H5 k5 e5 => ⟨by walk_at "k", ?_⟩
        rw [et]
        rfl
    | alike a b f g =>
      rw [e] at tx et
      obtain ⟨p, pf, pg, fs, gs_, rfl, hp, hf, tf, hg, tg⟩ := td_alike tx
      walk_at "gs"
      have l1 := tf.length
      have l2 := tg.length
      rw [List.length_map] at l1 l2
      refine g_xEl eD hz fun H5 k5 e5 => ⟨by walk_at "k", ?_⟩
      rw [et, l1, l2]
      simp [Stp.cnt]
  · rintro D acc H' nD eD ⟨k1, rfl⟩
    have ex : l.take xs.length = l := by
      have h2 := hT.length
      rw [List.length_map] at h2
      rw [h2, List.take_length]
    rw [ex] at eD
    walk_at "gs"
    refine g_sum (ns := l.map fun s => (s.cnt : Int)) (SqL.of (by rw [eD, List.map_map]; rfl)) ?_
    have es : (l.map fun s => (s.cnt : Int)).sum = ((cnts l : Nat) : Int) := by
      clear eD ex k hT hl
      induction l with
      | nil => rfl
      | cons s r ih =>
        rw [List.map_cons, List.sum_cons, ih]
        show (s.cnt : Int) + (cnts r : Int) = ((s.cnt + cnts r : Nat) : Int)
        omega
    rw [es]
    exact k H' k1
theorem ok_steps (F : Fun K "_law_steps" "_law_steps" s_law_steps f fd) (N : Nm mg) (c_law_next : Cal CX0 P w K mg base 1 "_law_next" spNext) (c_law_step : Cal CX0 P w K mg base 4 "_law_step" (spStep K)) (c_law_many : Cal CX0 P w K mg base 1 "_law_many" (spMany K)) : FnOk P w K mg base CX0 5 f fd ["_law_h", "_law_wheels", "_law_most"] (spSteps K) := by
  have m_range := N.range
  refine F.ok sc_law_steps (fun vs H Q E h => ?_) (fun cdv A outer s H vs Q E hr h => ?_)
  · obtain ⟨_, _, _, _, rfl, _⟩ := h
    rfl
  obtain ⟨h, q, n, m, rfl, hS, h1, h3, h5, k⟩ := h
  refine ⟨_, (pss_cons (ps_set (i := 3) sc_law_steps.nd rfl (by first | exact Or.inl rfl | exact Or.inr rfl) (pe_tup pa_nil))
      (pss_cons (ps_for PassesOwn.never rfl (pi_range1 (by rfl) m_range (pa_cons (pe_c c_law_next hr (by first | decide | omega) (by rfl) (pa_cons (pv 0) (pa_cons (pe_op op_add (pv 2) pe_int) pa_nil))) pa_nil)) (pg_name (i := 4) sc_law_steps.nd rfl (by first | exact Or.inl rfl | exact Or.inr rfl)) (pss_cons (ps_set (i := 5) sc_law_steps.nd rfl (by first | exact Or.inl rfl | exact Or.inr rfl) (pe_c c_law_step hr (by first | decide | omega) (by rfl) (pa_cons (pv 0) (pa_cons (pv 1) pa_nil))))
      (pss_one (ps_if (pt_cmpR op_le (pe_c c_law_many hr (by first | decide | omega) (by rfl) (pa_cons (pe_op (op_catAK (K := K)) (pv 3) (pe_tup (pa_cons (pv 5) pa_nil))) pa_nil)) (pv 2) (nomark _)) (pss_one (ps_set (i := 3) sc_law_steps.nd rfl (by first | exact Or.inl rfl | exact Or.inr rfl) (pe_op (op_catAK (K := K)) (pv 3) (pe_tup (pa_cons (pv 5) pa_nil))))) pss_nil))))
      (pss_one (ps_ret (pv 3))))), ?_⟩
  try dsimp only [nox_K]
  walk_at "gs"
  intro z H1 nz k1 e1
  walk_at "gs"
  intro r H2 r0 r1 k2 s2
  walk_at "gs"
  refine g_xRng1 (by omega) (by omega) ?_
  refine g_loopR (fun i σ' H' => ∃ (l : List Stp) (a : Addr) (xs : List V) (y4 y5 : Option V), σ' = [some (.ref h), some (.int n), some (.int m), some (.ref a), y4, y5] ∧ SqT K H' a xs ∧ TdA K H' xs (l.map Stp.dat) ∧ StepsOk n l ∧ cnts l ≤ m ∧ Kp [h, q] H2 H' ∧ Src H' h q)
    ⟨[], z, [], none, none, rfl, by walk_at "h", .nil, (by intro s hs; cases hs), Nat.zero_le _, Kp.refl _, s2⟩ ?_ ?_
  · rintro i σ' H' hi ⟨l, a, xs, y4, y5, rfl, ha, ta, hok, hc, k', s'⟩
    have hlen : xs.length ≤ 5 := by
      have e1 := ta.length
      have e2 := cnts_len l
      rw [List.length_map] at e1
      omega
    walk_at "gs"
    intro st v H3 hst hc3 tv k3 s3
    walk_at "gs"
    intro t H4 nt k4 e4
    refine g_catA (xs := xs) (ys := [v]) (by walk_at "h") (by walk_at "h") (by simp; omega) fun p H5 k5 e5 => ?_
    have t5 : TdA K H5 (xs ++ [v]) ((l ++ [st]).map Stp.dat) := by
      rw [List.map_append]
      exact TdA.app (by walk_at "h") (.cons (by walk_at "h") .nil)
    walk_at "gs"
    refine ap_manyT e5 t5 (by have := t5.length; simp at this; simp; omega) fun H6 k6 => ?_
    walk_at "gs"
    have ec : cnts (l ++ [st]) = cnts l + st.cnt := by
      rw [cnts_app]
      simp [cnts]
    have ok2 : StepsOk n (l ++ [st]) := fun s hs => by
      rcases List.mem_append.mp hs with z | z
      · exact hok s z
      · rw [List.mem_singleton.mp z]
        exact hst
    refine g_both (fun c => ?_) (fun c => ?_)
    · walk_at "gs"
      intro t2 H7 nt2 k7 e7
      refine g_catA (xs := xs) (ys := [v]) (by walk_at "h") (by walk_at "h") (by simp; omega) fun p2 H8 k8 e8 => ?_
      walk_at "gs"
      refine ⟨l ++ [st], p2, xs ++ [v], _, _, rfl, e8, by walk_at "h", ok2, by omega, by walk_at "k", by walk_at "h"⟩
    · walk_at "gs"
      exact ⟨l, a, xs, _, _, rfl, by walk_at "h", by walk_at "h", hok, hc, by walk_at "k", by walk_at "h"⟩
  · rintro σ' H' ⟨l, a, xs, y4, y5, rfl, ha, ta, hok, hc, k', s'⟩
    walk_at "gs"
    exact k l _ _ hok hc (.tup ha ta) (by walk_at "k") s'
end
theorem turn_inV (i : Int) : inV (.int i) [.int (-2), .int (-1), .int 1, .int 2] = turnIn (.int i) := by
  have e : ∀ a b : Int, (a == b) = decide (b = a) := fun a b => by
    rw [Bool.beq_eq_decide_eq]
    exact decide_eq_decide.mpr ⟨Eq.symm, Eq.symm⟩
  simp only [inV, eqV, turnIn, List.any_cons, List.any_nil, Bool.or_false, e, Bool.or_assoc]
theorem word_inV (z : Str) : inV (.str z) [.str "on", .str "back", .str "none"] = wordIn (.str z) := by
  have e : ∀ a b : Str, (a == b) = decide (b = a) := fun a b => by
    rw [Bool.beq_eq_decide_eq]
    exact decide_eq_decide.mpr ⟨Eq.symm, Eq.symm⟩
  simp only [inV, eqV, wordIn, List.any_cons, List.any_nil, Bool.or_false, e, Bool.or_assoc]
abbrev s_is_integer : Stmt := topS 16
abbrev n_is_integer : List Str := ["thing", "low", "high"]
theorem sc_is_integer : FnScope n_is_integer ["thing", "low", "high"] (defScope s_is_integer) := ⟨rfl, rfl, rfl, by decide +kernel, rfl, by decide +kernel, by decide +kernel⟩
abbrev s_is_plain : Stmt := topS 17
abbrev n_is_plain : List Str := ["thing", "wheels"]
theorem sc_is_plain : FnScope n_is_plain ["thing", "wheels"] (defScope s_is_plain) := ⟨rfl, rfl, rfl, by decide +kernel, rfl, by decide +kernel, by decide +kernel⟩
abbrev s_are_plain : Stmt := topS 18
abbrev n_are_plain : List Str := ["thing", "wheels", "step"]
theorem sc_are_plain : FnScope n_are_plain ["thing", "wheels"] (defScope s_are_plain) := ⟨rfl, rfl, rfl, by decide +kernel, rfl, by decide +kernel, by decide +kernel⟩
abbrev s_is_step : Stmt := topS 19
abbrev n_is_step : List Str := ["thing", "wheels", "wheel"]
theorem sc_is_step : FnScope n_is_step ["thing", "wheels"] (defScope s_is_step) := ⟨rfl, rfl, rfl, by decide +kernel, rfl, by decide +kernel, by decide +kernel⟩
section
variable {P : Program} {w : World} {K : PySem.W.Frag} {mg : Str → Option Value} {base : Heap} {f : Addr} {fd : FuncData}
theorem ok_is_integer (F : Fun K "is_integer" "is_integer" s_is_integer f fd) (N : Nm mg) : FnOk P w K mg base CX0 1 f fd ["thing", "low", "high"] (spIsInt K) := by
  have m_isinstance := N.isinstance
  have m_int := N.int
  have m_bool := N.bool
  refine F.ok sc_is_integer (fun vs H Q E h => ?_) (fun cdv A outer s H vs Q E hr h => ?_)
  · obtain ⟨_, _, _, _, rfl, _⟩ := h
    rfl
  obtain ⟨v, d, lo, hi, rfl, hd, k⟩ := h
  refine ⟨_, (pss_one (ps_ret (pe_and (pe_callB (w_isiK (K := K)) (by rfl) m_isinstance (by decide +kernel) (pa_cons (pv 0) (pa_cons (pe_bltn (v := V.ty "int") (by rfl) m_int (by decide +kernel) rfl) pa_nil))) (pe_and (pe_not (pe_callB (w_isiK (K := K)) (by rfl) m_isinstance (by decide +kernel) (pa_cons (pv 0) (pa_cons (pe_bltn (v := V.ty "bool") (by rfl) m_bool (by decide +kernel) rfl) pa_nil)))) (pe_one (pe_chain op_le op_le (pv 1) (pv 0) (pv 2))))))), ?_⟩
  try dsimp only [nox_K]
  walk_at "gs"
  cases d with
  | int i =>
    cases hd
    refine g_isiD (d := .int i) true (.int i) (by show kitB "int" "int" = _; decide +kernel) ?_
    walk_at "gs"
    refine g_isiD (d := .int i) false (.int i) (by show kitB "int" "bool" = _; decide +kernel) ?_
    walk_at "gs"
    refine g_both (fun c => ?_) (fun c => ?_)
    · walk_at "gs"
      have e : intIn lo hi (.int i) = decide (i ≤ hi) := by simp [intIn, c]
      have q := k H (Kp.refl H)
      rw [e] at q
      exact q
    · have e : intIn lo hi (.int i) = false := by simp [intIn, c]
      have q := k H (Kp.refl H)
      rw [e] at q
      exact q
  | bool b =>
    refine g_isiD true hd (by show kitB "bool" "int" = _; decide +kernel) ?_
    walk_at "gs"
    refine g_isiD true hd (by show kitB "bool" "bool" = _; decide +kernel) ?_
    walk_at "gs"
    exact k H (Kp.refl H)
  | dict _ => cases hd
  | none =>
    refine g_isiD false hd (by show kitB "NoneType" "int" = _; decide +kernel) ?_
    walk_at "gs"
    exact k H (Kp.refl H)
  | str _ =>
    refine g_isiD false hd (by show kitB "str" "int" = _; decide +kernel) ?_
    walk_at "gs"
    exact k H (Kp.refl H)
  | list _ =>
    refine g_isiD false hd (by show kitB "list" "int" = _; decide +kernel) ?_
    walk_at "gs"
    exact k H (Kp.refl H)
  | tuple _ =>
    refine g_isiD false hd (by show kitB "tuple" "int" = _; decide +kernel) ?_
    walk_at "gs"
    exact k H (Kp.refl H)
theorem ok_is_plain (F : Fun K "is_plain" "is_plain" s_is_plain f fd) (N : Nm mg) (c_is_integer : Cal CX0 P w K mg base 1 "is_integer" (spIsInt K)) {aT aP aW : Addr} (g_TURNS : Gc mg "TURNS" (.ref aT)) (t_TURNS : KT K aT [.int (-2), .int (-1), .int 1, .int 2])
    (g_PLACES : Gc mg "PLACES" (.ref aP)) (t_PLACES : KT K aP [.int (-2), .int (-1), .int 0, .int 1]) (g_WORDS : Gc mg "WORDS" (.ref aW)) (t_WORDS : KT K aW [.str "on", .str "back", .str "none"]) : FnOk P w K mg base CX0 2 f fd ["thing", "wheels"] (spIsPlain K) := by
  have m_len := N.len
  have m_isinstance := N.isinstance
  have m_str := N.str
  refine F.ok sc_is_plain (fun vs H Q E h => ?_) (fun cdv A outer s H vs Q E hr h => ?_)
  · obtain ⟨_, _, _, _, _, rfl, _⟩ := h
    rfl
  obtain ⟨a, xs, s, ds, n, rfl, hS, hD, k⟩ := h
  refine ⟨_, (pss_cons (ps_if (PW.pt (pw_or (pt_cmpR op_lt (pe_callB (w_lenK (K := K)) (by rfl) m_len (by decide +kernel) (pa_cons (pv 0) pa_nil)) pe_int (nomark _)) (pw_or1 (pt_not (pt_val (pe_c c_is_integer hr (by first | decide | omega) (by rfl) (pa_cons (pe_ix (ix_tupK (K := K)) (pv 0) pe_int (fun _ _ => rfl)) (pa_cons pe_int (pa_cons (pe_op op_sub (pv 1) pe_int) pa_nil))))))))) (pss_one (ps_ret pe_bl)) pss_nil)
      (pss_cons (ps_if (pt_cmpR op_eq (pe_ix (ix_tupK (K := K)) (pv 0) pe_int (fun _ _ => rfl)) pe_str (nomark _)) (pss_one (ps_ret (pe_and (pe_cmpR op_eq (pe_callB (w_lenK (K := K)) (by rfl) m_len (by decide +kernel) (pa_cons (pv 0) pa_nil)) pe_int (nomark _)) (pe_one (pe_c c_is_integer hr (by first | decide | omega) (by rfl) (pa_cons (pe_ix (ix_tupK (K := K)) (pv 0) pe_int (fun _ _ => rfl)) (pa_cons (pe_ix (ix_tupK (K := K)) (pe_g (by rfl) g_PLACES) pe_int (fun _ _ => rfl)) (pa_cons (pe_ix (ix_tupK (K := K)) (pe_g (by rfl) g_PLACES) (pe_un un_neg pe_int) (fun _ _ => rfl)) pa_nil)))))))) pss_nil)
      (pss_cons (ps_if (PW.pt (pw_or (pt_cmpR op_ne (pe_ix (ix_tupK (K := K)) (pv 0) pe_int (fun _ _ => rfl)) pe_str (nomark _)) (pw_or (pt_cmpR op_ne (pe_callB (w_lenK (K := K)) (by rfl) m_len (by decide +kernel) (pa_cons (pv 0) pa_nil)) pe_int (nomark _)) (pw_or1 (pt_not (pt_val (pe_c c_is_integer hr (by first | decide | omega) (by rfl) (pa_cons (pe_ix (ix_tupK (K := K)) (pv 0) pe_int (fun _ _ => rfl)) (pa_cons (pe_ix (ix_tupK (K := K)) (pe_g (by rfl) g_TURNS) pe_int (fun _ _ => rfl)) (pa_cons (pe_ix (ix_tupK (K := K)) (pe_g (by rfl) g_TURNS) (pe_un un_neg pe_int) (fun _ _ => rfl)) pa_nil)))))))))) (pss_one (ps_ret pe_bl)) pss_nil)
      (pss_one (ps_ret (pe_and (pe_cmpR (op_inK (K := K)) (pe_ix (ix_tupK (K := K)) (pv 0) pe_int (fun _ _ => rfl)) (pe_g (by rfl) g_TURNS) (by rfl)) (pe_and (pe_callB (w_isiK (K := K)) (by rfl) m_isinstance (by decide +kernel) (pa_cons (pe_ix (ix_tupK (K := K)) (pv 0) pe_int (fun _ _ => rfl)) (pa_cons (pe_bltn (v := V.ty "str") (by rfl) m_str (by decide +kernel) rfl) pa_nil))) (pe_one (pe_cmpR (op_inK (K := K)) (pe_ix (ix_tupK (K := K)) (pv 0) pe_int (fun _ _ => rfl)) (pe_g (by rfl) g_WORDS) (by rfl)))))))))), ?_⟩
  try dsimp only [nox_K]
  walk_at "gs"
  have fin : ∀ {b : Bool} {H' : Hp}, Kp [] H H' → plainD n (.str s :: ds) = b → Q (.bl b) H' := fun k' e => e ▸ k _ k'
  cases hD with
  | nil =>
    walk_at "gs"
    exact fin (Kp.refl _) rfl
  | cons ha t => cases t with
    | nil =>
      walk_at "gs"
      exact fin (Kp.refl _) rfl
    | @cons vb xs b r hb t =>
      refine g_both (fun c => by simp at c; omega) (fun c => ?_)
      walk_at "gs"
      intro H1 k1
      walk_at "gs"
      cases e1 : intIn 0 ((n : Int) - 1) _ with
      | false =>
        walk_at "gs"
        exact fin (by walk_at "k") (by simp [plainD, e1])
      | true =>
        walk_at "gs"
        refine g_both (fun c2 => ?_) (fun c2 => ?_)
        · subst c2
          cases t with
          | nil =>
            walk_at "gs"
            intro H2 k2
            exact fin (by walk_at "k") (by simp [plainD, e1])
          | cons hc t =>
            walk_at "gs"
            exact fin (by walk_at "k") (by simp [plainD, e1])
        walk_at "gs"
        refine g_bothN (fun c3 => ?_) (fun c3 => ?_)
        · walk_at "gs"
          exact fin (by walk_at "k") (by simp [plainD, e1, c2, c3])
        subst c3
        cases t with
        | nil =>
          walk_at "gs"
          exact fin (by walk_at "k") (by simp [plainD, e1, c2])
        | @cons vc xs dc r hvc t => cases t with
          | cons hd t =>
            walk_at "gs"
            exact fin (by walk_at "k") (by simp [plainD, e1, c2])
          | nil =>
            walk_at "gs"
            intro H2 k2
            walk_at "gs"
            cases e2 : intIn (-2) 2 b with
            | false =>
              walk_at "gs"
              have e3 : turnIn b = false := by
                cases b with
                | int i =>
                  simp [intIn] at e2
                  simp [turnIn]
                  omega
                | _ => rfl
              exact fin (by walk_at "k") (by simp [plainD, e1, c2, e3])
            | true =>
              cases b with
              | int i =>
                cases hb
                walk_at "gs"
                rw [turn_inV]
                cases e3 : turnIn (.int i) with
                | false =>
                  walk_at "gs"
                  exact fin (by walk_at "k") (by simp [plainD, e1, c2, e3])
                | true =>
                  walk_at "gs"
                  cases dc with
                  | str z =>
                    cases hvc
                    refine g_isi (t := "str") (b := true) (.base (.str z)) (by decide +kernel) ?_
                    walk_at "gs"
                    rw [word_inV]
                    exact fin (by walk_at "k") (by simp [plainD, e1, c2, e3])
                  | dict _ => cases hvc
                  | none =>
                    refine g_isiD false (Kp.dp (by walk_at "k") hvc) (by show kitB "NoneType" "str" = _; decide +kernel) ?_
                    walk_at "gs"
                    exact fin (by walk_at "k") (by simp [plainD, e1, c2, e3, wordIn])
                  | bool _ =>
                    refine g_isiD false (Kp.dp (by walk_at "k") hvc) (by show kitB "bool" "str" = _; decide +kernel) ?_
                    walk_at "gs"
                    exact fin (by walk_at "k") (by simp [plainD, e1, c2, e3, wordIn])
                  | int _ =>
                    refine g_isiD false (Kp.dp (by walk_at "k") hvc) (by show kitB "int" "str" = _; decide +kernel) ?_
                    walk_at "gs"
                    exact fin (by walk_at "k") (by simp [plainD, e1, c2, e3, wordIn])
                  | list _ =>
                    refine g_isiD false (Kp.dp (by walk_at "k") hvc) (by show kitB "list" "str" = _; decide +kernel) ?_
                    walk_at "gs"
                    exact fin (by walk_at "k") (by simp [plainD, e1, c2, e3, wordIn])
                  | tuple _ =>
                    refine g_isiD false (Kp.dp (by walk_at "k") hvc) (by show kitB "tuple" "str" = _; decide +kernel) ?_
                    walk_at "gs"
                    exact fin (by walk_at "k") (by simp [plainD, e1, c2, e3, wordIn])
              | _ => exact absurd e2 (by simp [intIn])
theorem ok_are_plain (F : Fun K "are_plain" "are_plain" s_are_plain f fd) (N : Nm mg) (c_is_plain : Cal CX0 P w K mg base 2 "is_plain" (spIsPlain K)) : FnOk P w K mg base CX0 3 f fd ["thing", "wheels"] (spArePlain K) := by
  have m_isinstance := N.isinstance
  have m_str := N.str
  have m_tuple := N.tuple
  have m_all := N.all
  refine F.ok sc_are_plain (fun vs H Q E h => ?_) (fun cdv A outer s H vs Q E hr h => ?_)
  · obtain ⟨_, _, _, rfl, _⟩ := h
    rfl
  obtain ⟨v, d, n, rfl, hD, hsh, hsz, k⟩ := h
  refine ⟨_, (pss_cons (ps_if (PW.pt (pw_or (pt_not (pt_val (pe_callB (w_isiK (K := K)) (by rfl) m_isinstance (by decide +kernel) (pa_cons (pv 0) (pa_cons (pe_bltn (v := V.ty "tuple") (by rfl) m_tuple (by decide +kernel) rfl) pa_nil))))) (pw_or1 (pt_not (pt_val (pe_callB (cr_allK (K := K) (by rfl)) (by rfl) m_all (by decide +kernel) (pa_cons (pe_lc (own := [("step", 2)]) (tt := tYes) (by rfl) sc_are_plain.nd (pi_tupK (K := K) (pv 0)) (blkOk_by (own := [("step", 2)]) (N := n_are_plain) (sc := defScope s_are_plain) (by decide +kernel)) (fun _ _ _ _ _ => (pg_name (i := 2) sc_are_plain.nd rfl (by first | exact Or.inl rfl | exact Or.inr rfl))) (fun _ _ _ _ _ => pts_nil) (fun _ _ _ _ _ => (pe_and (pe_callB (w_isiK (K := K)) (by rfl) m_isinstance (by decide +kernel) (pa_cons (pv 2) (pa_cons (pe_bltn (v := V.ty "tuple") (by rfl) m_tuple (by decide +kernel) rfl) pa_nil))) (pe_one (pe_cmpR (op_neDK (K := K) hr) (pv 2) (pe_tup pa_nil) (nomark _)))))) pa_nil))))))) (pss_one (ps_ret pe_bl)) pss_nil)
      (pss_one (ps_ret (pe_callB (cr_allK (K := K) (by rfl)) (by rfl) m_all (by decide +kernel) (pa_cons (pe_lc (own := [("step", 2)]) (tt := tYes) (by rfl) sc_are_plain.nd (pi_tupK (K := K) (pv 0)) (blkOk_by (own := [("step", 2)]) (N := n_are_plain) (sc := defScope s_are_plain) (by decide +kernel)) (fun _ _ _ _ _ => (pg_name (i := 2) sc_are_plain.nd rfl (by first | exact Or.inl rfl | exact Or.inr rfl))) (fun _ _ _ _ _ => pts_nil) (fun _ _ _ _ _ => (pe_and (pe_callB (w_isiK (K := K)) (by rfl) m_isinstance (by decide +kernel) (pa_cons (pe_ix (ix_tupK (K := K)) (pv 2) pe_int (fun _ _ => rfl)) (pa_cons (pe_bltn (v := V.ty "str") (by rfl) m_str (by decide +kernel) rfl) pa_nil))) (pe_one (pe_c c_is_plain hr (by first | decide | omega) (by rfl) (pa_cons (pv 2) (pa_cons (pv 1) pa_nil))))))) pa_nil))))), ?_⟩
  try dsimp only [nox_K]
  walk_at "gs"
  have fin : ∀ {b : Bool} {H' : Hp}, Kp [] H H' → plainsD n d = b → Q (.bl b) H' := fun k' e => e ▸ k _ k'
  by_cases htup : tyD d = "tuple"
  · cases d with
    | tuple ds =>
      refine g_isiD true hD (by show kitB "tuple" "tuple" = _; decide +kernel) ?_
      obtain @⟨⟩ | @⟨⟩ | @⟨⟩ | @⟨⟩ | @⟨⟩ | @⟨a, xs, _, hS, hA⟩ := hD
      walk_at "gs"
      refine g_compT (xs := xs) (fun D i acc H' => Kp [] H H' ∧ acc = ((ds.take i).map neTup).map V.bl) (fun D H1 nD k1 => ⟨k1, rfl⟩) (fun D i acc H' _ ⟨k1, _⟩ => k1.sqT hS) ?_ ?_
      · rintro D i x acc H' nD hx eD ⟨k1, rfl⟩
        obtain ⟨e, he, hx'⟩ := dp_item hA hx
        have hm := List.mem_of_getElem? he
        have hxe := k1.dp hx'
        have hlen : ds.length ≤ 1000 := hsz _ rfl
        have hz : (((ds.take i).map neTup).map V.bl).length ≤ 1000000 := by
          simp
          omega
        have et := take_next (g := neTup) he
        have hsh2 := shaped_mem hsh e hm
        walk_at "gs"
        by_cases ht2 : tyD e = "tuple"
        · cases e with
          | tuple es =>
            refine g_isiD true hxe (by show kitB "tuple" "tuple" = _; decide +kernel) ?_
            walk_at "gs"
            intro z H2 nz k2 e2
            refine g_rNeDp (e := .tuple []) (k2.dp hxe) (.tup (SqT.of e2) .nil) hsh2 rfl ?_
            refine g_xEl (by walk_at "h") hz fun H5 k5 e5 => ⟨by walk_at "k", ?_⟩
            rw [et, List.map_append]
            cases es <;> rfl
          | _ => exact (not_tup ht2 nofun).elim
        · refine g_isiD false hxe (kit_no ht2) ?_
          walk_at "gs"
          refine g_xEl (by walk_at "h") hz fun H5 k5 e5 => ⟨by walk_at "k", ?_⟩
          rw [et, List.map_append]
          cases e with
          | tuple _ => exact absurd rfl ht2
          | _ => rfl
      · rintro D acc H' nD eD ⟨k1, rfl⟩
        have hl2 := dpA_len hA
        rw [hl2, List.take_length] at eD
        walk_at "gs"
        refine g_all (SqL.of eD) ?_
        walk_at "gs"
        refine g_two (fun c => ?_) (fun c => ?_)
        · walk_at "gs"
          refine fin (by walk_at "k") ?_
          simp only [Bool.not_eq_true', List.all_eq_false, List.mem_map] at c
          obtain ⟨b, ⟨e, he, rfl⟩, hb⟩ := c
          simp only [plainsD, List.all_eq_false]
          refine ⟨e, he, fun z => hb ?_⟩
          cases e with
          | tuple es => cases es with
            | nil => cases z
            | cons _ _ => rfl
          | _ => cases z
        have hall : ∀ e ∈ ds, neTup e = true := by
          simp only [Bool.not_eq_false', List.all_eq_true, List.mem_map] at c
          exact fun e he => c _ ⟨e, he, rfl⟩
        walk_at "gs"
        have k1' : Kp [] H H' := k1
        refine g_compT (xs := xs) (fun D i acc H2 => Kp [] H H2 ∧ acc = ((ds.take i).map (isPlD n)).map V.bl) (fun D H1 nD k1 => ⟨by walk_at "k", rfl⟩) (fun D i acc H' _ ⟨k1, _⟩ => k1.sqT hS) ?_ ?_
        · rintro D2 i x acc H2 nD2 hx eD2 ⟨k2, rfl⟩
          obtain ⟨e, he, hx'⟩ := dp_item hA hx
          have hm := List.mem_of_getElem? he
          have hxe := k2.dp hx'
          have hlen : ds.length ≤ 1000 := hsz _ rfl
          have hz : (((ds.take i).map (isPlD n)).map V.bl).length ≤ 1000000 := by
            simp
            omega
          have et := take_next (g := isPlD n) he
          have ht := hall e hm
          cases e with
          | tuple es => cases es with
            | nil => cases ht
            | cons e0 es =>
              obtain @⟨⟩ | @⟨⟩ | @⟨⟩ | @⟨⟩ | @⟨⟩ | @⟨a2, xs2, _, hS2, hA2⟩ := hxe
              cases hA2 with
              | @cons v0 vs2 _ _ h0 hA2 =>
                walk_at "gs"
                cases e0 with
                | str s0 =>
                  cases h0
                  refine g_isi (t := "str") (b := true) (.base (.str s0)) (by decide +kernel) ?_
                  walk_at "gs"
                  intro H3 k3
                  refine g_xEl (by walk_at "h") hz fun H5 k5 e5 => ⟨by walk_at "k", ?_⟩
                  rw [et, List.map_append]
                  rfl
                | dict _ => cases h0
                | _ =>
                  refine g_isiD false h0 ?_ ?_
                  · first | (show kitB "NoneType" "str" = _; decide +kernel) | (show kitB "bool" "str" = _; decide +kernel) | (show kitB "int" "str" = _; decide +kernel) | (show kitB "list" "str" = _; decide +kernel) | (show kitB "tuple" "str" = _; decide +kernel)
                  walk_at "gs"
                  refine g_xEl (by walk_at "h") hz fun H5 k5 e5 => ⟨by walk_at "k", ?_⟩
                  rw [et, List.map_append]
                  rfl
          | _ => cases ht
        · rintro D2 acc H2 nD2 eD2 ⟨k2, rfl⟩
          rw [hl2, List.take_length] at eD2
          walk_at "gs"
          refine g_all (SqL.of eD2) ?_
          refine fin (by walk_at "k") ?_
          simp only [plainsD, List.all_map]
          rfl
    | _ => exact (not_tup htup nofun).elim
  · refine g_isiD false hD (kit_no htup) ?_
    walk_at "gs"
    refine fin (Kp.refl _) ?_
    cases d with
    | tuple _ => exact absurd rfl htup
    | _ => rfl
theorem ok_is_step (F : Fun K "is_step" "is_step" s_is_step f fd) (N : Nm mg) (c_is_integer : Cal CX0 P w K mg base 1 "is_integer" (spIsInt K)) (c_is_plain : Cal CX0 P w K mg base 2 "is_plain" (spIsPlain K)) (c_are_plain : Cal CX0 P w K mg base 3 "are_plain" (spArePlain K)) : FnOk P w K mg base CX0 4 f fd ["thing", "wheels"] (spIsStep K) := by
  have m_isinstance := N.isinstance
  have m_str := N.str
  have m_tuple := N.tuple
  have m_all := N.all
  have m_len := N.len
  refine F.ok sc_is_step (fun vs H Q E h => ?_) (fun cdv A outer s H vs Q E hr h => ?_)
  · obtain ⟨_, _, _, rfl, _⟩ := h
    rfl
  obtain ⟨v, d, n, rfl, hD, hsh, hsz, k⟩ := h
  refine ⟨_, (pss_cons (ps_if (PW.pt (pw_or (pt_not (pt_val (pe_callB (w_isiK (K := K)) (by rfl) m_isinstance (by decide +kernel) (pa_cons (pv 0) (pa_cons (pe_bltn (v := V.ty "tuple") (by rfl) m_tuple (by decide +kernel) rfl) pa_nil))))) (pw_or (pt_cmpR (op_eqDK (K := K) hr) (pv 0) (pe_tup pa_nil) (nomark _)) (pw_or1 (pt_not (pt_val (pe_callB (w_isiK (K := K)) (by rfl) m_isinstance (by decide +kernel) (pa_cons (pe_ix (ix_tupK (K := K)) (pv 0) pe_int (fun _ _ => rfl)) (pa_cons (pe_bltn (v := V.ty "str") (by rfl) m_str (by decide +kernel) rfl) pa_nil))))))))) (pss_one (ps_ret pe_bl)) pss_nil)
      (pss_cons (ps_if (pt_cmpR op_ne (pe_ix (ix_tupK (K := K)) (pv 0) pe_int (fun _ _ => rfl)) pe_str (nomark _)) (pss_one (ps_ret (pe_c c_is_plain hr (by first | decide | omega) (by rfl) (pa_cons (pv 0) (pa_cons (pv 1) pa_nil))))) pss_nil)
      (pss_cons (ps_if (PW.pt (pw_or (pt_cmpR op_ne (pe_callB (w_lenK (K := K)) (by rfl) m_len (by decide +kernel) (pa_cons (pv 0) pa_nil)) pe_int (nomark _)) (pw_or1 (pt_not (pt_val (pe_callB (cr_allK (K := K) (by rfl)) (by rfl) m_all (by decide +kernel) (pa_cons (pe_lc (own := [("wheel", 2)]) (tt := tYes) (by rfl) sc_is_step.nd (pi_tupK (K := K) (pe_slice (sl_tupAK (K := K)) (pv 0) (po_some pe_int) (po_some pe_int))) (blkOk_by (own := [("wheel", 2)]) (N := n_is_step) (sc := defScope s_is_step) (by decide +kernel)) (fun _ _ _ _ _ => (pg_name (i := 2) sc_is_step.nd rfl (by first | exact Or.inl rfl | exact Or.inr rfl))) (fun _ _ _ _ _ => pts_nil) (fun _ _ _ _ _ => (pe_c c_is_integer hr (by first | decide | omega) (by rfl) (pa_cons (pv 2) (pa_cons pe_int (pa_cons (pe_op op_sub (pv 1) pe_int) pa_nil)))))) pa_nil))))))) (pss_one (ps_ret pe_bl)) pss_nil)
      (pss_one (ps_ret (pe_and (pe_cmpR op_lt (pe_ix (ix_tupK (K := K)) (pv 0) pe_int (fun _ _ => rfl)) (pe_ix (ix_tupK (K := K)) (pv 0) pe_int (fun _ _ => rfl)) (nomark _)) (pe_and (pe_c c_are_plain hr (by first | decide | omega) (by rfl) (pa_cons (pe_ix (ix_tupK (K := K)) (pv 0) pe_int (fun _ _ => rfl)) (pa_cons (pv 1) pa_nil))) (pe_one (pe_c c_are_plain hr (by first | decide | omega) (by rfl) (pa_cons (pe_ix (ix_tupK (K := K)) (pv 0) pe_int (fun _ _ => rfl)) (pa_cons (pv 1) pa_nil))))))))))), ?_⟩
  try dsimp only [nox_K]
  walk_at "gs"
  have fin : ∀ {b : Bool} {H' : Hp}, Kp [] H H' → stepD n d = b → Q (.bl b) H' := fun k' e => e ▸ k _ k'
  by_cases htup : tyD d = "tuple"
  · cases d with
    | tuple ds =>
      refine g_isiD true hD (by show kitB "tuple" "tuple" = _; decide +kernel) ?_
      have hD' := hD
      obtain @⟨⟩ | @⟨⟩ | @⟨⟩ | @⟨⟩ | @⟨⟩ | @⟨a, xs, _, hS, hA⟩ := hD'
      walk_at "gs"
      intro z H1 nz k1 e1
      refine g_rEqDp (e := .tuple []) (k1.dp hD) (.tup (SqT.of e1) .nil) hsh rfl ?_
      cases hA with
      | nil =>
        walk_at "gs"
        exact fin (by walk_at "k") rfl
      | @cons v0 xs e0 es h0 hA =>
        walk_at "gs"
        by_cases hstr : tyD e0 = "str"
        · cases e0 with
          | str s0 =>
            cases h0
            refine g_isi (t := "str") (b := true) (.base (.str s0)) (by decide +kernel) ?_
            walk_at "gs"
            refine g_bothN (fun c => ?_) (fun c => ?_)
            · walk_at "gs"
              intro H2 k2
              refine fin (by walk_at "k") ?_
              simp [stepD, c]
            subst c
            walk_at "gs"
            cases hA with
            | nil =>
              walk_at "gs"
              exact fin (by walk_at "k") rfl
            | @cons va xs ea es ha hA => cases hA with
              | nil =>
                walk_at "gs"
                exact fin (by walk_at "k") rfl
              | @cons vb xs eb es hb hA => cases hA with
                | nil =>
                  walk_at "gs"
                  exact fin (by walk_at "k") rfl
                | @cons vf xs ef es hf hA => cases hA with
                  | nil =>
                    walk_at "gs"
                    exact fin (by walk_at "k") rfl
                  | @cons vg xs eg es hg hA => cases hA with
                    | cons hx hA =>
                      walk_at "gs"
                      exact fin (by walk_at "k") rfl
                    | nil =>
                      walk_at "gs"
                      intro q H2 k2 hq
                      have hq' : SqT K H2 q [va, vb] := hq
                      clear hq
                      walk_at "gs"
                      have hA2 : DpAll K H [va, vb] [ea, eb] := .cons ha (.cons hb .nil)
                      have kk2 : Kp [] H H2 := by walk_at "k"
                      refine g_compT (xs := [va, vb]) (fun D i acc H3 => Kp [] H2 H3 ∧ acc = (([ea, eb].take i).map (intIn 0 ((n : Int) - 1))).map V.bl) (fun D H1 nD k1 => ⟨k1, rfl⟩) (fun D i acc H' _ ⟨k1, _⟩ => k1.sqT hq') ?_ ?_
                      · rintro D2 i x acc H3 nD2 hx eD2 ⟨k3, rfl⟩
                        obtain ⟨e, he, hx'⟩ := dp_item hA2 hx
                        have hxe := (kk2.trans k3).dp hx'
                        have hz : ((([ea, eb].take i).map (intIn 0 ((n : Int) - 1))).map V.bl).length ≤ 1000000 := by
                          simp
                          omega
                        have et := take_next (g := intIn 0 ((n : Int) - 1)) he
                        walk_at "gs"
                        intro H4 k4
                        refine g_xEl (by walk_at "h") hz fun H5 k5 e5 => ⟨by walk_at "k", ?_⟩
                        rw [et, List.map_append]
                        rfl
                      · rintro D2 acc H3 nD2 eD2 ⟨k3, rfl⟩
                        have kk3 : Kp [] H H3 := kk2.trans k3
                        walk_at "gs"
                        refine g_all (bs := [intIn 0 ((n : Int) - 1) ea, intIn 0 ((n : Int) - 1) eb]) (SqL.of eD2) ?_
                        walk_at "gs"
                        have hmem : ∀ e, e ∈ ([.str "alike", ea, eb, ef, eg] : List PyData) → SeqAt.shaped e = true ∧ Sz1 e := fun e he => ⟨shaped_mem hsh e he, (hsz _ rfl).2 e he⟩
                        obtain ⟨sf, zf⟩ := hmem ef (by simp)
                        obtain ⟨sg, zg⟩ := hmem eg (by simp)
                        cases e1 : intIn 0 ((n : Int) - 1) ea with
                        | false =>
                          walk_at "gs"
                          exact fin (by walk_at "k") (by simp [stepD, e1])
                        | true => cases e2 : intIn 0 ((n : Int) - 1) eb with
                          | false =>
                            walk_at "gs"
                            exact fin (by walk_at "k") (by simp [stepD, e1, e2])
                          | true =>
                            walk_at "gs"
                            cases ea with
                            | int i => cases eb with
                              | int j =>
                                cases ha
                                cases hb
                                walk_at "gs"
                                refine g_both (fun c => ?_) (fun c => ?_)
                                · walk_at "gs"
                                  intro H4 k4
                                  walk_at "gs"
                                  cases e3 : plainsD n ef with
                                  | false =>
                                    walk_at "gs"
                                    exact fin (by walk_at "k") (by simp [stepD, e1, e2, e3])
                                  | true =>
                                    walk_at "gs"
                                    intro H5 k5
                                    exact fin (by walk_at "k") (by simp [stepD, e1, e2, e3, lessD, c])
                                · exact fin (by walk_at "k") (by simp [stepD, e1, e2, lessD, c])
                              | _ => exact absurd e2 (by simp [intIn])
                            | _ => exact absurd e1 (by simp [intIn])
          | none => exact absurd (show "NoneType" = "str" from hstr) (by decide)
          | bool _ => exact absurd (show "bool" = "str" from hstr) (by decide)
          | int _ => exact absurd (show "int" = "str" from hstr) (by decide)
          | tuple _ => exact absurd (show "tuple" = "str" from hstr) (by decide)
          | list _ => exact absurd (show "list" = "str" from hstr) (by decide)
          | dict _ => exact absurd (show "dict" = "str" from hstr) (by decide)
        · refine g_isiD false (Kp.dp k1 h0) ?_ ?_
          · cases e0 with
            | str _ => exact absurd rfl hstr
            | none => show kitB "NoneType" "str" = _; decide +kernel
            | bool _ => show kitB "bool" "str" = _; decide +kernel
            | int _ => show kitB "int" "str" = _; decide +kernel
            | tuple _ => show kitB "tuple" "str" = _; decide +kernel
            | list _ => show kitB "list" "str" = _; decide +kernel
            | dict _ => cases h0
          walk_at "gs"
          refine fin (by walk_at "k") ?_
          cases e0 with
          | str _ => exact absurd rfl hstr
          | _ => rfl
    | _ => exact (not_tup htup nofun).elim
  · refine g_isiD false hD (kit_no htup) ?_
    walk_at "gs"
    refine fin (Kp.refl _) ?_
    cases d with
    | tuple _ => exact absurd rfl htup
    | _ => rfl
end
abbrev s_turned : Stmt := topS 27
abbrev n_turned : List Str := ["showing", "sizes", "wheel", "by", "word", "found", "spot", "full"]
theorem sc_turned : FnScope n_turned ["showing", "sizes", "wheel", "by", "word"] (defScope s_turned) := ⟨rfl, rfl, rfl, by decide +kernel, rfl, by decide +kernel, by decide +kernel⟩
abbrev s_stepped : Stmt := topS 28
abbrev n_stepped : List Str := ["showing", "sizes", "step", "place"]
theorem sc_stepped : FnScope n_stepped ["showing", "sizes", "step"] (defScope s_stepped) := ⟨rfl, rfl, rfl, by decide +kernel, rfl, by decide +kernel, by decide +kernel⟩
abbrev s_ran : Stmt := topS 29
abbrev n_ran : List Str := ["showing", "sizes", "steps", "step"]
theorem sc_ran : FnScope n_ran ["showing", "sizes", "steps"] (defScope s_ran) := ⟨rfl, rfl, rfl, by decide +kernel, rfl, by decide +kernel, by decide +kernel⟩
section
variable {P : Program} {w : World} {K : PySem.W.Frag} {mg : Str → Option Value} {base : Heap} {f : Addr} {fd : FuncData}
theorem ok_turned (F : Fun K "turned" "turned" s_turned f fd) (N : Nm mg) {aT : Addr} (g_TAKEN : Gc mg "TAKEN" (.ref aT)) (t_TAKEN : TakenT K w aT) : FnOk P w K mg base CX0 1 f fd ["showing", "sizes", "wheel", "by", "word"] (spTurned K) := by
  have m_list := N.list
  have m_tuple := N.tuple
  have m_len := N.len
  refine F.ok sc_turned (fun vs H Q E h => ?_) (fun cdv A outer s H vs Q E hr h => ?_)
  · obtain ⟨_, _, _, _, _, _, _, rfl, _⟩ := h
    rfl
  obtain ⟨a, b, z, s, wh, by_, kd, rfl, hz, hs, hl, h1, h2, h3, k⟩ := h
  refine ⟨_, (pss_cons (ps_set (i := 5) sc_turned.nd rfl (by first | exact Or.inl rfl | exact Or.inr rfl) (pe_callTy (w_listK (K := K)) (by rfl) m_list (by decide +kernel) (pa_cons (pv 0) pa_nil)))
      (pss_cons (ps_while PassesOwn.never (PW.pt (pw_and (pt_cmpR op_ne (pv 3) pe_int (nomark _)) (pw_and1 (pt_cmpR op_lt (pv 2) (pe_callB (w_lenK (K := K)) (by rfl) m_len (by decide +kernel) (pa_cons (pv 5) pa_nil)) (nomark _))))) (pss_cons (ps_set (i := 6) sc_turned.nd rfl (by first | exact Or.inl rfl | exact Or.inr rfl) (pe_op op_add (pe_ix (ix_listK (K := K)) (pv 5) (pv 2) (fun _ _ => rfl)) (pv 3)))
      (pss_cons (ps_set (i := 7) sc_turned.nd rfl (by first | exact Or.inl rfl | exact Or.inr rfl) (pe_ifExp (pt_cmpR op_ge (pv 6) (pe_ix (ix_tupK (K := K)) (pv 1) (pv 2) (fun _ _ => rfl)) (nomark _)) pe_int (pe_ifExp (pt_cmpR op_lt (pv 6) pe_int (nomark _)) (pe_un un_neg pe_int) pe_int)))
      (pss_cons (ps_asg (pe_op op_sub (pv 6) (pe_op op_mul (pv 7) (pe_ix (ix_tupK (K := K)) (pv 1) (pv 2) (fun _ _ => rfl)))) (pg_sub (pv 5) (pv 2) set_list))
      (pss_one (ps_par (i := 3) (j := 2) (by rfl) sc_turned.nd rfl rfl (by decide) rfl rfl (pa_cons (pe_op op_mul (pv 7) (pe_ix (ix_kdictK (K := K) (w := w)) (pe_g (by rfl) g_TAKEN) (pv 4) (fun _ _ => rfl))) (pa_cons (pe_op op_add (pv 2) pe_int) pa_nil)) (by rfl)))))))
      (pss_one (ps_ret (pe_callTy (w_tupleK (K := K)) (by rfl) m_tuple (by decide +kernel) (pa_cons (pv 5) pa_nil)))))), ?_⟩
  try dsimp only [nox_K]
  walk_at "gs"
  intro l H1 nl k1 e1
  walk_at "gs"
  refine g_while (fun m σ' H' => ∃ (z' : List Int) (w' : Nat) (b' : Int) (y6 y7 : Option V), m = z.length - w' ∧ σ' = [some (.ref a), some (.ref b), some (.int w'), some (.int b'), some (.str kd.s), some (.ref l), y6, y7] ∧ H' l = some (.lst (vI z')) ∧ z'.length = z.length ∧ -2 ≤ b' ∧ b' ≤ 2 ∧ turnZ s z' w' b' kd.c = turnZ s z wh by_ kd.c ∧ Kp [] H H')
    ⟨_, z, wh, by_, none, none, rfl, rfl, e1, rfl, h2, h3, rfl, by walk_at "k"⟩ ?_
  rintro m σ' H' ⟨z', w', b', y6, y7, rfl, rfl, eL, hl', hb1, hb2, hT, k'⟩
  have fin : turnZ s z' w' b' kd.c = z' → ∀ (l : Addr) (H2 : Hp), H' l = none → Kp [] H' H2 → H2 l = some (HO.tup (vI z')) → Q (V.ref l) H2 := fun e p H2 np k2 e2 => by
    refine k p H2 (by walk_at "k") ?_
    rw [← hT, e]
    exact e2
  walk_at "gs"
  refine g_bothN (fun c => ?_) (fun c => ?_)
  · walk_at "gs"
    refine g_whB (fun c2 => ?_) (fun c2 => ?_)
    · rw [vI_length] at c2
      have hw : w' < z'.length := by omega
      have hws : w' < s.length := by omega
      have hx := List.getElem?_eq_getElem hw
      have hy := List.getElem?_eq_getElem hws
      generalize z'[w'] = x at hx
      generalize s[w'] = y at hy
      have st := turnZ_step (c := kd.c) c hx hy
      walk_at "gs"
      refine g_ixL (by walk_at "h") (atI_nat (vI_get hx)) ?_
      walk_at "gs"
      refine g_ixT (by walk_at "h") (atI_nat (vI_get hy)) ?_
      walk_at "gs"
      refine g_both (fun c3 => ?_) (fun c3 => ?_)
      · rw [if_pos c3] at st
        walk_at "gs"
        refine g_ixT (by walk_at "h") (atI_nat (vI_get hy)) ?_
        walk_at "gs"
        refine g_setL (j := w') (by walk_at "h") (ixN_at rfl (by rw [vI_length]; exact hw)) fun H2 k2 e2 => ?_
        walk_at "gs"
        refine g_taken t_TAKEN ?_
        walk_at "gs"
        refine ⟨z'.length - (w' + 1), by omega, z'.set w' (x + b' - 1 * y), w' + 1, 1 * kd.c, _, _, by omega, rfl, ?_, by simp [hl'], ?_, ?_, by rw [← st, hT], by walk_at "k"⟩
        · rw [e2, vI, vI, List.map_set]
        all_goals (cases kd <;> decide)
      · rw [if_neg c3] at st
        walk_at "gs"
        refine g_both (fun c4 => ?_) (fun c4 => ?_)
        · rw [if_pos c4] at st
          walk_at "gs"
          refine g_ixT (by walk_at "h") (atI_nat (vI_get hy)) ?_
          walk_at "gs"
          refine g_setL (j := w') (by walk_at "h") (ixN_at rfl (by rw [vI_length]; exact hw)) fun H2 k2 e2 => ?_
          walk_at "gs"
          refine g_taken t_TAKEN ?_
          walk_at "gs"
          refine ⟨z'.length - (w' + 1), by omega, z'.set w' (x + b' - -1 * y), w' + 1, -1 * kd.c, _, _, by omega, rfl, ?_, by simp [hl'], ?_, ?_, by rw [← st, hT], by walk_at "k"⟩
          · rw [e2, vI, vI, List.map_set]
          all_goals (cases kd <;> decide)
        · rw [if_neg c4] at st
          walk_at "gs"
          refine g_ixT (by walk_at "h") (atI_nat (vI_get hy)) ?_
          walk_at "gs"
          refine g_setL (j := w') (by walk_at "h") (ixN_at rfl (by rw [vI_length]; exact hw)) fun H2 k2 e2 => ?_
          walk_at "gs"
          refine g_taken t_TAKEN ?_
          walk_at "gs"
          refine ⟨z'.length - (w' + 1), by omega, z'.set w' (x + b' - 0 * y), w' + 1, 0 * kd.c, _, _, by omega, rfl, ?_, by simp [hl'], ?_, ?_, by rw [← st, hT], by walk_at "k"⟩
          · rw [e2, vI, vI, List.map_set]
          all_goals (cases kd <;> decide)
    · rw [vI_length] at c2
      walk_at "gs"
      exact fin (turnZ_end (by omega))
  · subst c
    walk_at "gs"
    exact fin (turnZ_zero _ _ _ _)
theorem ok_stepped {n lv lv' : Nat} (F : Fun K "stepped" "stepped" s_stepped f fd) (N : Nm mg) (c_turned : Cal CX0 P w K mg base 1 "turned" (spTurned K)) (c_ran : Cal CX0 P w K mg base lv "ran" (spRan K n)) (hlv : lv ≤ lv') (hlv' : 1 ≤ lv') : FnOk P w K mg base CX0 (lv' + 1) f fd ["showing", "sizes", "step"] (spStepped K n) := by
  refine F.ok sc_stepped (fun vs H Q E h => ?_) (fun cdv A outer s H vs Q E hr h => ?_)
  · obtain ⟨_, _, _, _, _, _, _, rfl, _⟩ := h
    rfl
  obtain ⟨τ, a, b, z, s, v, st, rfl, hzB, hs, hl, h1, hv, ho, hd, k⟩ := h
  have hz := hzB.1
  refine ⟨_, (pss_cons (ps_if (pt_cmpR op_eq (pe_ix (ix_tupK (K := K)) (pv 2) pe_int (fun _ _ => rfl)) pe_str (nomark _)) (pss_one (ps_ret (pe_c c_turned hr (by first | decide | omega) (by rfl) (pa_cons (pv 0) (pa_cons (pv 1) (pa_cons (pe_ix (ix_tupK (K := K)) (pv 2) pe_int (fun _ _ => rfl)) (pa_cons (pe_ix (ix_tupK (K := K)) (pv 2) pe_int (fun _ _ => rfl)) (pa_cons (pe_ix (ix_tupK (K := K)) (pv 2) pe_int (fun _ _ => rfl)) pa_nil)))))))) pss_nil)
      (pss_cons (ps_if (pt_cmpR op_eq (pe_ix (ix_tupK (K := K)) (pv 2) pe_int (fun _ _ => rfl)) pe_str (nomark _)) (pss_cons (ps_set (i := 3) sc_stepped.nd rfl (by first | exact Or.inl rfl | exact Or.inr rfl) (pe_ifExp (pt_cmpR op_ge (pe_ix (ix_tupK (K := K)) (pv 2) pe_int (fun _ _ => rfl)) pe_int (nomark _)) (pe_ix (ix_tupK (K := K)) (pv 2) pe_int (fun _ _ => rfl)) (pe_op op_add (pe_ix (ix_tupK (K := K)) (pv 1) (pe_ix (ix_tupK (K := K)) (pv 2) pe_int (fun _ _ => rfl)) (fun _ _ => rfl)) (pe_ix (ix_tupK (K := K)) (pv 2) pe_int (fun _ _ => rfl)))))
      (pss_one (ps_ret (pe_tup (pa_starK (K := K) (pe_slice (sl_tupAK (K := K)) (pv 0) po_none (po_some (pe_ix (ix_tupK (K := K)) (pv 2) pe_int (fun _ _ => rfl)))) (pa_cons (pv 3) (pa_starK (K := K) (pe_slice (sl_tupAK (K := K)) (pv 0) (po_some (pe_op op_add (pe_ix (ix_tupK (K := K)) (pv 2) pe_int (fun _ _ => rfl)) pe_int)) po_none) pa_nil))))))) pss_nil)
      (pss_one (ps_ret (pe_c c_ran hr (by first | decide | omega) (by rfl) (pa_cons (pv 0) (pa_cons (pv 1) (pa_cons (pe_ifExp (pt_cmpR op_eq (pe_ix (ix_tupK (K := K)) (pv 0) (pe_ix (ix_tupK (K := K)) (pv 2) pe_int (fun _ _ => rfl)) (fun _ _ => rfl)) (pe_ix (ix_tupK (K := K)) (pv 0) (pe_ix (ix_tupK (K := K)) (pv 2) pe_int (fun _ _ => rfl)) (fun _ _ => rfl)) (nomark _)) (pe_ix (ix_tupK (K := K)) (pv 2) pe_int (fun _ _ => rfl)) (pe_ix (ix_tupK (K := K)) (pv 2) pe_int (fun _ _ => rfl))) pa_nil)))))))), ?_⟩
  try dsimp only [nox_K]
  cases st with
  | pl p => cases p with
    | turn wh b' kd =>
      obtain ⟨t, rfl, ht⟩ := td_turn hv
      obtain ⟨o1, o2⟩ := ho
      walk_at "gs"
      exact ap_turned hz hs hl h1 (by omega) (by omega) fun p H' k' s' => k p H' k' (.at_ s')
    | set wh p =>
      obtain ⟨t, rfl, ht⟩ := td_set hv
      obtain ⟨o1, o2, o3⟩ := ho
      have o1' : wh < s.length := o1
      have hy := List.getElem?_eq_getElem o1'
      have fin : ∀ (pl : Int), (if 0 ≤ p then p else s.getD wh 0 + p) = pl → (vI z).take wh ++ (V.int pl :: ((vI z).drop (wh + 1) ++ [])) = vI (stZ s z (.pl (.set wh p))) := fun pl e => by
        show _ = vI (z.set wh _)
        rw [e, List.append_nil, vI, vI, List.map_set, List.set_eq_take_append_cons_drop, if_pos (by rw [List.length_map]; omega)]
      walk_at "gs"
      refine g_both (fun c => ?_) (fun c => ?_)
      · walk_at "gs"
        intro q1 H2 k2 s2
        rw [cutV_take] at s2
        walk_at "gs"
        intro q2 H3 k3 s3
        rw [show ((wh : Int) + 1) = ((wh + 1 : Nat) : Int) from by omega, cutV_drop] at s3
        walk_at "gs"
        refine g_mkT (by simp [vI]; omega) fun r H4 nr k4 e4 => ?_
        refine k r H4 (by walk_at "k") ?_
        rw [← fin p (if_pos c)]
        exact .at_ e4
      · walk_at "gs"
        refine g_ixT (by walk_at "h") (atI_nat (vI_get hy)) ?_
        walk_at "gs"
        intro q1 H2 k2 s2
        rw [cutV_take] at s2
        walk_at "gs"
        intro q2 H3 k3 s3
        rw [show ((wh : Int) + 1) = ((wh + 1 : Nat) : Int) from by omega, cutV_drop] at s3
        walk_at "gs"
        refine g_mkT (by simp [vI]; omega) fun r H4 nr k4 e4 => ?_
        refine k r H4 (by walk_at "k") ?_
        rw [← fin _ (if_neg c), List.getD_eq_getElem?_getD, hy]
        exact .at_ e4
  | alike a' b' f g =>
    obtain ⟨t, pf, pg, fs, gs_, rfl, ht, hf, tf, hg, tg⟩ := td_alike hv
    obtain ⟨o1, o2, o3, o4⟩ := ho
    have hn : 0 < n := hd
    have hx := List.getElem?_eq_getElem (show a' < z.length by omega)
    have hy := List.getElem?_eq_getElem (show b' < z.length by omega)
    have hst : stZ s z (.alike a' b' f g) = plsZ s z (if z[a'] = z[b'] then f else g) := by
      show plsZ s z (if z.getD a' 0 = z.getD b' 0 then f else g) = _
      rw [List.getD_eq_getElem?_getD, List.getD_eq_getElem?_getD, hx, hy]
      rfl
    have inner : ∀ l : List Pl, (∀ p ∈ l, p.ok s.length) → StepsOk s.length (l.map .pl) ∧ ∀ st ∈ l.map Stp.pl, st.dep < n := fun l hl => by
      refine ⟨fun st hs => ?_, fun st hs => ?_⟩
      · obtain ⟨p, hp, rfl⟩ := List.mem_map.mp hs
        exact hl p hp
      · obtain ⟨p, hp, rfl⟩ := List.mem_map.mp hs
        exact hn
    rw [hst] at k
    walk_at "gs"
    refine g_ixT (by walk_at "h") (atI_nat (vI_get hx)) ?_
    walk_at "gs"
    refine g_ixT (by walk_at "h") (atI_nat (vI_get hy)) ?_
    walk_at "gs"
    refine g_both (fun c => ?_) (fun c => ?_)
    · walk_at "gs"
      rw [if_pos c] at k
      exact ap_ranB (l := f.map .pl) hzB hs hl h1 hf (by rw [pls_dat]; exact tf) (inner f o3).1 (inner f o3).2 hn (by rw [runZ_pls]; exact k)
    · walk_at "gs"
      rw [if_neg c] at k
      exact ap_ranB (l := g.map .pl) hzB hs hl h1 hg (by rw [pls_dat]; exact tg) (inner g o4).1 (inner g o4).2 hn (by rw [runZ_pls]; exact k)
theorem ok_ran {n lv : Nat} (F : Fun K "ran" "ran" s_ran f fd) (c_stepped : Cal CX0 P w K mg base lv "stepped" (spStepped K n)) : FnOk P w K mg base CX0 (lv + 1) f fd ["showing", "sizes", "steps"] (spRan K (n + 1)) := by
  refine F.ok sc_ran (fun vs H Q E h => ?_) (fun cdv A outer s H vs Q E hr h => ?_)
  · obtain ⟨_, _, _, _, _, _, _, _, rfl, _⟩ := h
    rfl
  obtain ⟨τ, a, b, t, z, s, xs, l, rfl, hz, hs, hl, h1, ht, hT, ho, hd, hn, k⟩ := h
  refine ⟨_, (pss_cons (ps_for PassesOwn.never rfl (pi_tupK (K := K) (pv 2)) (pg_name (i := 3) sc_ran.nd rfl (by first | exact Or.inl rfl | exact Or.inr rfl)) (pss_one (ps_set (i := 0) sc_ran.nd rfl (by first | exact Or.inl rfl | exact Or.inr rfl) (pe_c c_stepped hr (by first | decide | omega) (by rfl) (pa_cons (pv 0) (pa_cons (pv 1) (pa_cons (pv 3) pa_nil)))))))
      (pss_one (ps_ret (pv 0)))), ?_⟩
  try dsimp only [nox_K]
  walk_at "gs"
  have hlen := hT.length
  rw [List.length_map] at hlen
  refine g_loopT (xs := xs) (fun i σ' H' => ∃ (a' : Addr) (y3 : Option V), σ' = [some (.ref a'), some (.ref b), some (.ref t), y3] ∧ SqB K τ H' a' (vI (runZ s z (l.take i))) ∧ Kp [] H H') ⟨a, none, rfl, hz, Kp.refl H⟩ (fun i σ' H' _ ⟨_, _, _, _, k'⟩ => k'.sqT ht) ?_ ?_
  · rintro i x σ' H' hx ⟨a', y3, rfl, hz', k'⟩
    have hi : i < l.length := by
      have := (List.getElem?_eq_some_iff.mp hx).1
      omega
    obtain ⟨x', hx', tx⟩ := (k'.tdA hT).get (i := i) (d := l[i].dat) (by simp [hi])
    rw [hx] at hx'
    cases hx'
    have hm := List.getElem_mem hi
    walk_at "gs"
    refine ap_steppedB hz' (by walk_at "h") (by rw [runZ_len]; exact hl) h1 tx (ho _ hm) (Nat.le_of_lt_succ (hd _ hm)) fun p H2 k2 hp => ?_
    walk_at "gs"
    refine ⟨p, _, rfl, ?_, by walk_at "k"⟩
    have er : runZ s z (l.take (i + 1)) = stZ s (runZ s z (l.take i)) l[i] := by
      rw [List.take_add_one, List.getElem?_eq_getElem hi]
      exact List.foldl_append ..
    rw [er]
    exact hp
  · rintro σ' H' ⟨a', y3, rfl, hz', k'⟩
    walk_at "gs"
    rw [hlen, List.take_length] at hz'
    exact k a' H' k' hz'
end
abbrev s_all_plain : Stmt := topS 20
abbrev n_all_plain : List Str := ["steps", "found", "step"]
theorem sc_all_plain : FnScope n_all_plain ["steps"] (defScope s_all_plain) := ⟨rfl, rfl, rfl, by decide +kernel, rfl, by decide +kernel, by decide +kernel⟩
abbrev s_Script_init : Stmt := inClass (topS 22) 0
abbrev n_Script_init : List Str := ["self", "wheels", "steps", "index", "step"]
theorem sc_Script_init : FnScope n_Script_init ["self", "wheels", "steps"] (defScope s_Script_init) := ⟨rfl, rfl, rfl, by decide +kernel, rfl, by decide +kernel, by decide +kernel⟩
abbrev s_first_of : Stmt := topS 30
abbrev n_first_of : List Str := ["sizes"]
theorem sc_first_of : FnScope n_first_of ["sizes"] (defScope s_first_of) := ⟨rfl, rfl, rfl, by decide +kernel, rfl, by decide +kernel, by decide +kernel⟩
abbrev s_shown_by : Stmt := topS 31
abbrev n_shown_by : List Str := ["script", "sizes"]
theorem sc_shown_by : FnScope n_shown_by ["script", "sizes"] (defScope s_shown_by) := ⟨rfl, rfl, rfl, by decide +kernel, rfl, by decide +kernel, by decide +kernel⟩
section
variable {P : Program} {w : World} {K : PySem.W.Frag} {mg : Str → Option Value} {base : Heap} {f : Addr} {fd : FuncData}
theorem ok_all_plain (F : Fun K "all_plain" "all_plain" s_all_plain f fd) : FnOk P w K mg base CX0 1 f fd ["steps"] (spAllPlain K) := by
  refine F.ok sc_all_plain (fun vs H Q E h => ?_) (fun cdv A outer s H vs Q E hr h => ?_)
  · obtain ⟨_, _, _, rfl, _⟩ := h
    rfl
  obtain ⟨a, xs, l, rfl, hS, hT, hc, k⟩ := h
  refine ⟨_, (pss_cons (ps_set (i := 1) sc_all_plain.nd rfl (by first | exact Or.inl rfl | exact Or.inr rfl) (pe_lst pa_nil))
      (pss_cons (ps_for PassesOwn.never rfl (pi_tupK (K := K) (pv 0)) (pg_name (i := 2) sc_all_plain.nd rfl (by first | exact Or.inl rfl | exact Or.inr rfl)) (pss_cons (ps_expr (pe_bm PySem.F.plainAttrs_list PySem.F.slot_list_append PySem.F.type_list_append mt_append (pv 1) (pa_cons (pv 2) pa_nil)))
      (pss_one (ps_if (pt_cmpR op_eq (pe_ix (ix_tupK (K := K)) (pv 2) pe_int (fun _ _ => rfl)) pe_str (nomark _)) (pss_one (ps_expr (pe_bm PySem.F.plainAttrs_list PySem.F.slot_list_extend PySem.F.type_list_extend mt_extend (pv 1) (pa_cons (pe_lst (pa_starK (K := K) (pe_ix (ix_tupK (K := K)) (pv 2) pe_int (fun _ _ => rfl)) (pa_starK (K := K) (pe_ix (ix_tupK (K := K)) (pv 2) pe_int (fun _ _ => rfl)) pa_nil))) pa_nil)))) pss_nil))))
      (pss_one (ps_ret (pv 1))))), ?_⟩
  try dsimp only [nox_K]
  walk_at "gs"
  intro p H1 np k1 e1
  walk_at "gs"
  have hlen := hT.length
  rw [List.length_map] at hlen
  refine g_loopT (xs := xs) (fun i σ' H' => ∃ (ws : List V) (y2 : Option V), σ' = [some (.ref a), some (.ref p), y2] ∧ H' p = some (.lst ws) ∧ TdA K H' ws ((flat (l.take i)).map Stp.dat) ∧ Kp [] H H') ⟨[], none, rfl, e1, .nil, by walk_at "k"⟩ (fun i σ' H' _ ⟨_, _, _, _, _, k'⟩ => k'.sqT hS) ?_ ?_
  · rintro i x σ' H' hx ⟨ws, y2, rfl, eL, tL, k'⟩
    have hi : i < l.length := by
      have := (List.getElem?_eq_some_iff.mp hx).1
      omega
    obtain ⟨x', hx', tx⟩ := (k'.tdA hT).get (i := i) (d := l[i].dat) (by simp [hi])
    rw [hx] at hx'
    cases hx'
    have hfl : (flat (l.take i)).length ≤ 1000 := by
      rw [flat_len]
      have e := cnts_app (l.take i) (l.drop i)
      rw [List.take_append_drop] at e
      omega
    have hwl := tL.length
    rw [List.length_map] at hwl
    have et : flat (l.take (i + 1)) = flat (l.take i) ++ (l[i] :: l[i].inner) := by
      rw [List.take_add_one, List.getElem?_eq_getElem hi, flat_app]
      simp [flat]
    have hcn : l[i].cnt ≤ 1000 := by
      have e := cnts_app (l.take (i + 1)) (l.drop (i + 1))
      rw [List.take_append_drop, List.take_add_one, List.getElem?_eq_getElem hi, cnts_app] at e
      simp [cnts] at e
      simp [cnts] at hc
      omega
    rw [et]
    generalize l[i] = st at tx hcn ⊢
    walk_at "gs"
    refine g_append (by walk_at "h") (by omega) fun H2 k2 e2 => ?_
    have t2 : TdA K H2 (ws ++ [x]) ((flat (l.take i) ++ [st]).map Stp.dat) := by
      rw [List.map_append]
      exact TdA.app (k2.tdA tL) (.cons (k2.td tx) .nil)
    walk_at "gs"
    cases st with
    | pl p' =>
      cases p' with
      | turn wh b kd =>
        obtain ⟨t, rfl, ht⟩ := td_turn tx
        walk_at "gs"
        exact ⟨_, _, rfl, e2, t2, by walk_at "k"⟩
      | set wh b =>
        obtain ⟨t, rfl, ht⟩ := td_set tx
        walk_at "gs"
        exact ⟨_, _, rfl, e2, t2, by walk_at "k"⟩
    | alike a' b' f' g' =>
      obtain ⟨t, pf, pg, fs, gs_, rfl, ht, hf, tf, hg, tg⟩ := td_alike tx
      have l1 := tf.length
      have l2 := tg.length
      rw [List.length_map] at l1 l2
      simp only [Stp.cnt] at hcn
      walk_at "gs"
      refine g_mkL (by simp; omega) fun q H3 nq k3 e3 => ?_
      walk_at "gs"
      refine g_extend (xs := ws ++ [_]) (ys := fs ++ (gs_ ++ [])) (by walk_at "h") e3 (by simp; omega) fun H4 k4 e4 => ?_
      walk_at "gs"
      refine ⟨_, _, rfl, e4, ?_, by walk_at "k"⟩
      have e5 : (flat (l.take i) ++ (Stp.alike a' b' f' g' :: (Stp.alike a' b' f' g').inner)).map Stp.dat = (flat (l.take i) ++ [Stp.alike a' b' f' g']).map Stp.dat ++ (f'.map Pl.dat ++ g'.map Pl.dat) := by
        simp [Stp.inner, Stp.dat, Function.comp_def]
      rw [e5, List.append_nil]
      exact TdA.app (by walk_at "h") (TdA.app (by walk_at "h") (by walk_at "h"))
  · rintro σ' H' ⟨ws, y2, rfl, eL, tL, k'⟩
    walk_at "gs"
    rw [hlen, List.take_length] at tL
    exact k p ws H' np k' eL tL
theorem ok_init {C : Addr} (F : Fun K "__init__" "Script.__init__" s_Script_init f fd) (N : Nm mg) (T : ScT K C) (c_is_integer : Cal CX0 P w K mg base 1 "is_integer" (spIsInt K)) (c_is_step : Cal CX0 P w K mg base 4 "is_step" (spIsStep K)) (c_all_plain : Cal CX0 P w K mg base 1 "all_plain" (spAllPlain K))
    (g_MOST_WHEELS : Gc mg "MOST_WHEELS" (.int 3)) (g_MOST_STEPS : Gc mg "MOST_STEPS" (.int 5)) : FnOk P w K mg base CX0 5 f fd ["self", "wheels", "steps"] (spInit K C) := by
  have m_isinstance := N.isinstance
  have m_tuple := N.tuple
  have m_len := N.len
  have m_enumerate := N.enumerate
  refine F.ok sc_Script_init (fun vs H Q E h => ?_) (fun cdv A outer s H vs Q E hr h => ?_)
  · obtain ⟨_, _, _, _, _, rfl, _⟩ := h
    rfl
  obtain ⟨p, dx, n, v, l, rfl, hp, hv, ho, hc, h1, h3, k⟩ := h
  refine ⟨_, (pss_cons (ps_if (pt_not (pt_val (pe_c c_is_integer hr (by first | decide | omega) (by rfl) (pa_cons (pv 1) (pa_cons pe_int (pa_cons (pe_g (by rfl) g_MOST_WHEELS) pa_nil)))))) (pss_one ps_never) pss_nil)
      (pss_cons (ps_if (pt_not (pt_val (pe_callB (w_isiK (K := K)) (by rfl) m_isinstance (by decide +kernel) (pa_cons (pv 2) (pa_cons (pe_bltn (v := V.ty "tuple") (by rfl) m_tuple (by decide +kernel) rfl) pa_nil))))) (pss_one ps_never) pss_nil)
      (pss_cons (ps_for PassesOwn.never rfl (pi_enumT (by rfl) m_enumerate (pa_cons (pv 2) pa_nil)) (pg_tupK (K := K) (n := 2) (by rfl) (pgs_cons (pg_name (i := 3) sc_Script_init.nd rfl (by first | exact Or.inl rfl | exact Or.inr rfl)) (pgs_cons (pg_name (i := 4) sc_Script_init.nd rfl (by first | exact Or.inl rfl | exact Or.inr rfl)) pgs_nil))) (pss_one (ps_if (pt_not (pt_val (pe_c c_is_step hr (by first | decide | omega) (by rfl) (pa_cons (pv 4) (pa_cons (pv 1) pa_nil))))) (pss_one ps_never) pss_nil)))
      (pss_cons (ps_if (pt_cmpR op_gt (pe_callB (w_lenK (K := K)) (by rfl) m_len (by decide +kernel) (pa_cons (pe_c c_all_plain hr (by first | decide | omega) (by rfl) (pa_cons (pv 2) pa_nil)) pa_nil)) (pe_g (by rfl) g_MOST_STEPS) (nomark _)) (pss_one ps_never) pss_nil)
      (pss_cons (ps_fld (pv 0) (pv 1) rfl)
      (pss_one (ps_fld (pv 0) (pv 2) rfl))))))), ?_⟩
  try dsimp only [nox_K]
  walk_at "gs"
  intro H1 k1
  walk_at "gs"
  have e1 : intIn 1 3 (.int n) = true := by simp [intIn]; omega
  rw [e1]
  walk_at "gs"
  obtain ⟨t, xs, rfl, ht, tt⟩ := hv.inv
  refine g_isi (t := "tuple") (b := true) (dp_ty (k1.dp hv.dp)) (by decide +kernel) ?_
  walk_at "gs"
  have hlen := tt.length
  rw [List.length_map] at hlen
  refine g_loopE (xs := xs) (fun i σ' H' => ∃ (y3 y4 : Option V), σ' = [some (.ref p), some (.int n), some (.ref t), y3, y4] ∧ Kp [] H H') ⟨none, none, rfl, k1⟩ (fun i σ' H' _ ⟨_, _, _, k'⟩ => k'.sqT ht) ?_ ?_
  · rintro i x σ' H' T H2 hx ⟨y3, y4, rfl, k'⟩ nT k2 e2
    have hi : i < l.length := by
      have := (List.getElem?_eq_some_iff.mp hx).1
      omega
    obtain ⟨x', hx', tx⟩ := (k'.tdA tt).get (i := i) (d := l[i].dat) (by simp [hi])
    rw [hx] at hx'
    cases hx'
    have hm := List.getElem_mem hi
    have hok := ho _ hm
    have hcn : l[i].cnt ≤ 1000 := by
      have e := cnts_app (l.take (i + 1)) (l.drop (i + 1))
      rw [List.take_append_drop, List.take_add_one, List.getElem?_eq_getElem hi, cnts_app] at e
      simp [cnts] at e
      simp [cnts] at hc
      omega
    have sh := (lay_st l[i]).sh (by decide)
    have sz := sz_st hcn
    walk_at "gs"
    intro H3 k3
    rw [stepD_ok hok]
    walk_at "gs"
    exact ⟨_, _, rfl, by walk_at "k"⟩
  · rintro σ' H' ⟨y3, y4, rfl, k'⟩
    walk_at "gs"
    refine ap_allPlain (k'.sqT ht) (k'.tdA tt) (by omega) fun q ws H2 nq k2 e2 t2 => ?_
    walk_at "gs"
    have hw := t2.length
    rw [List.length_map, flat_len] at hw
    refine g_both (fun c => absurd c (by omega)) (fun c => ?_)
    walk_at "gs"
    refine g_xSF (by walk_at "h") T.cl T.nM (by show 0 < 1000; decide) fun H3 k3 e3 => ?_
    walk_at "gs"
    refine g_xSF (by walk_at "h") T.cl T.nR (putF_len1 _ _) fun H4 k4 e4 => ?_
    have kk : Kp [] H H2 := by walk_at "k"
    have kk4 : Kp [p] H H4 := by walk_at "k"
    exact k H4 kk4 ⟨⟨dx, .ref t, e4, kk4.td hv⟩, ho, hc, h1, h3⟩
theorem ok_first_of (F : Fun K "first_of" "first_of" s_first_of f fd) (N : Nm mg) : FnOk P w K mg base CX0 1 f fd ["sizes"] (spFirst K) := by
  have m_len := N.len
  refine F.ok sc_first_of (fun vs H Q E h => ?_) (fun cdv A outer s H vs Q E hr h => ?_)
  · obtain ⟨_, _, rfl, _⟩ := h
    rfl
  obtain ⟨b, s, rfl, hs, h1, h2, k⟩ := h
  refine ⟨_, (pss_one (ps_ret (pe_op (op_repAK (K := K)) (pe_tup (pa_cons pe_int pa_nil)) (pe_callB (w_lenK (K := K)) (by rfl) m_len (by decide +kernel) (pa_cons (pv 0) pa_nil))))), ?_⟩
  try dsimp only [nox_K]
  walk_at "gs"
  intro z H1 nz k1 e1
  walk_at "gs"
  refine g_repB e1 (by simp) (by rw [vI_length]; omega) (by rw [vI_length]; omega) (by decide) fun p H2 k2 hp => ?_
  rw [rep_one, vI_length] at hp
  refine k p H2 (by walk_at "k") ?_
  unfold vI zeros
  rw [List.map_replicate]
  exact hp
theorem ok_shown_by {C : Addr} (F : Fun K "shown_by" "shown_by" s_shown_by f fd) (T : ScT K C) (c_first_of : Cal CX0 P w K mg base 1 "first_of" (spFirst K)) (c_ran : Cal CX0 P w K mg base 5 "ran" (spRan K 2)) : FnOk P w K mg base CX0 6 f fd ["script", "sizes"] (spShownBy K C) := by
  refine F.ok sc_shown_by (fun vs H Q E h => ?_) (fun cdv A outer s H vs Q E hr h => ?_)
  · obtain ⟨_, _, _, _, _, rfl, _⟩ := h
    rfl
  obtain ⟨a, b, n, l, s, rfl, hA, hs, hl, k⟩ := h
  have h1 := hA.n1
  have h3 := hA.n3
  refine ⟨_, (pss_one (ps_ret (pe_c c_ran hr (by first | decide | omega) (by rfl) (pa_cons (pe_c c_first_of hr (by first | decide | omega) (by rfl) (pa_cons (pv 1) pa_nil)) (pa_cons (pv 1) (pa_cons (pe_fldK (K := K) (pv 0) rfl) pa_nil)))))), ?_⟩
  try dsimp only [nox_K]
  walk_at "gs"
  refine ap_firstB hs (by omega) (by omega) fun z H1 k1 hz => ?_
  walk_at "gs"
  intro p xs hp hx
  walk_at "gs"
  refine ap_ranB (τ := true) (.at_ hz) (by walk_at "h") (zeros_len _) (by omega) hp hx (by rw [hl]; exact hA.ok) (fun st _ => by cases st <;> simp [Stp.dep]) (by decide) fun q H2 k2 hq => ?_
  exact k q H2 (by walk_at "k") hq.tr
end
abbrev s_are_sizes : Stmt := topS 32
abbrev n_are_sizes : List Str := ["thing", "wheels", "size"]
theorem sc_are_sizes : FnScope n_are_sizes ["thing", "wheels"] (defScope s_are_sizes) := ⟨rfl, rfl, rfl, by decide +kernel, rfl, by decide +kernel, by decide +kernel⟩
abbrev s_check_sizes : Stmt := topS 33
abbrev n_check_sizes : List Str := ["thing", "wheels"]
theorem sc_check_sizes : FnScope n_check_sizes ["thing", "wheels"] (defScope s_check_sizes) := ⟨rfl, rfl, rfl, by decide +kernel, rfl, by decide +kernel, by decide +kernel⟩
abbrev s_shown : Stmt := topS 34
abbrev n_shown : List Str := ["script", "sizes"]
theorem sc_shown : FnScope n_shown ["script", "sizes"] (defScope s_shown) := ⟨rfl, rfl, rfl, by decide +kernel, rfl, by decide +kernel, by decide +kernel⟩
abbrev s_trace : Stmt := topS 35
abbrev n_trace : List Str := ["script", "sizes", "found", "step"]
theorem sc_trace : FnScope n_trace ["script", "sizes"] (defScope s_trace) := ⟨rfl, rfl, rfl, by decide +kernel, rfl, by decide +kernel, by decide +kernel⟩
section
variable {P : Program} {w : World} {K : PySem.W.Frag} {mg : Str → Option Value} {base : Heap} {f : Addr} {fd : FuncData}
theorem ok_are_sizes (F : Fun K "are_sizes" "are_sizes" s_are_sizes f fd) (N : Nm mg) (c_is_integer : Cal CX0 P w K mg base 1 "is_integer" (spIsInt K)) (g_LEAST_SIZE : Gc mg "LEAST_SIZE" (.int 2)) (g_MOST_SIZE : Gc mg "MOST_SIZE" (.int (10 ^ 30))) : FnOk P w K mg base CX0 2 f fd ["thing", "wheels"] (spAreSizes K) := by
  have m_isinstance := N.isinstance
  have m_tuple := N.tuple
  have m_len := N.len
  have m_all := N.all
  refine F.ok sc_are_sizes (fun vs H Q E h => ?_) (fun cdv A outer s H vs Q E hr h => ?_)
  · obtain ⟨_, _, _, rfl, _⟩ := h
    rfl
  obtain ⟨v, d, n, rfl, hD, hsz, k⟩ := h
  refine ⟨_, (pss_cons (ps_if (PW.pt (pw_or (pt_not (pt_val (pe_callB (w_isiK (K := K)) (by rfl) m_isinstance (by decide +kernel) (pa_cons (pv 0) (pa_cons (pe_bltn (v := V.ty "tuple") (by rfl) m_tuple (by decide +kernel) rfl) pa_nil))))) (pw_or1 (pt_cmpR op_ne (pe_callB (w_lenK (K := K)) (by rfl) m_len (by decide +kernel) (pa_cons (pv 0) pa_nil)) (pv 1) (nomark _))))) (pss_one (ps_ret pe_bl)) pss_nil)
      (pss_one (ps_ret (pe_callB (cr_allK (K := K) (by rfl)) (by rfl) m_all (by decide +kernel) (pa_cons (pe_lc (own := [("size", 2)]) (tt := tYes) (by rfl) sc_are_sizes.nd (pi_tupK (K := K) (pv 0)) (blkOk_by (own := [("size", 2)]) (N := n_are_sizes) (sc := defScope s_are_sizes) (by decide +kernel)) (fun _ _ _ _ _ => (pg_name (i := 2) sc_are_sizes.nd rfl (by first | exact Or.inl rfl | exact Or.inr rfl))) (fun _ _ _ _ _ => pts_nil) (fun _ _ _ _ _ => (pe_c c_is_integer hr (by first | decide | omega) (by rfl) (pa_cons (pv 2) (pa_cons (pe_g (by rfl) g_LEAST_SIZE) (pa_cons (pe_g (by rfl) g_MOST_SIZE) pa_nil)))))) pa_nil))))), ?_⟩
  try dsimp only [nox_K]
  walk_at "gs"
  have fin : ∀ {b : Bool} {H' : Hp}, Kp [] H H' → sizesD n d = b → Q (.bl b) H' := fun k' e => e ▸ k _ k'
  by_cases htup : tyD d = "tuple"
  · cases d with
    | tuple ds =>
      refine g_isiD true hD (by show kitB "tuple" "tuple" = _; decide +kernel) ?_
      obtain @⟨⟩ | @⟨⟩ | @⟨⟩ | @⟨⟩ | @⟨⟩ | @⟨a, xs, _, hS, hA⟩ := hD
      have hl2 := dpA_len hA
      walk_at "gs"
      refine g_bothN (fun c => ?_) (fun c => ?_)
      · walk_at "gs"
        refine fin (Kp.refl _) ?_
        have : ¬ ds.length = n := by omega
        simp [sizesD, this]
      walk_at "gs"
      refine g_compT (xs := xs) (fun D i acc H3 => Kp [] H H3 ∧ acc = ((ds.take i).map (intIn 2 (10 ^ 30))).map V.bl) (fun D H1 nD k1 => ⟨k1, rfl⟩) (fun D i acc H' _ ⟨k1, _⟩ => k1.sqT hS) ?_ ?_
      · rintro D2 i x acc H3 nD2 hx eD2 ⟨k3, rfl⟩
        obtain ⟨e, he, hx'⟩ := dp_item hA hx
        have hxe := k3.dp hx'
        have hlen : ds.length ≤ 1000 := hsz _ rfl
        have hz : (((ds.take i).map (intIn 2 (10 ^ 30))).map V.bl).length ≤ 1000000 := by
          simp
          omega
        have et := take_next (g := intIn 2 (10 ^ 30)) he
        walk_at "gs"
        intro H4 k4
        refine g_xEl (by walk_at "h") hz fun H5 k5 e5 => ⟨by walk_at "k", ?_⟩
        rw [et, List.map_append]
        rfl
      · rintro D2 acc H3 nD2 eD2 ⟨k3, rfl⟩
        rw [hl2, List.take_length] at eD2
        walk_at "gs"
        refine g_all (SqL.of eD2) ?_
        refine fin (by walk_at "k") ?_
        have : ds.length = n := by omega
        simp only [sizesD, this, decide_true, Bool.true_and, List.all_map]
        rfl
    | _ => exact (not_tup htup nofun).elim
  · refine g_isiD false hD (kit_no htup) ?_
    walk_at "gs"
    refine fin (Kp.refl _) ?_
    cases d with
    | tuple _ => exact absurd rfl htup
    | _ => rfl
theorem ok_check_sizes (F : Fun K "check_sizes" "check_sizes" s_check_sizes f fd) (c_are_sizes : Cal CX0 P w K mg base 2 "are_sizes" (spAreSizes K)) : FnOk P w K mg base CX0 3 f fd ["thing", "wheels"] (spCheckSizes K) := by
  refine F.ok sc_check_sizes (fun vs H Q E h => ?_) (fun cdv A outer s H vs Q E hr h => ?_)
  · obtain ⟨_, _, _, rfl, _⟩ := h
    rfl
  obtain ⟨v, d, n, rfl, hD, hsz, hok, k⟩ := h
  refine ⟨_, (pss_one (ps_if (pt_not (pt_val (pe_c c_are_sizes hr (by first | decide | omega) (by rfl) (pa_cons (pv 0) (pa_cons (pv 1) pa_nil))))) (pss_one ps_never) pss_nil)), ?_⟩
  try dsimp only [nox_K]
  walk_at "gs"
  refine ap_areSizes hD hsz fun H1 k1 => ?_
  rw [hok]
  walk_at "gs"
  exact k H1 k1
theorem ok_shown {C : Addr} (F : Fun K "shown" "shown" s_shown f fd) (T : ScT K C) (c_check_sizes : Cal CX0 P w K mg base 3 "check_sizes" (spCheckSizes K)) (c_shown_by : Cal CX0 P w K mg base 6 "shown_by" (spShownBy K C)) : FnOk P w K mg base CX0 7 f fd ["script", "sizes"] (spShown K C) := by
  refine F.ok sc_shown (fun vs H Q E h => ?_) (fun cdv A outer s H vs Q E hr h => ?_)
  · obtain ⟨_, _, _, _, _, rfl, _⟩ := h
    rfl
  obtain ⟨a, b, n, l, s, rfl, hA, hs, hl, ho, k⟩ := h
  have h1 := hA.n1
  have h3 := hA.n3
  refine ⟨_, (pss_cons (ps_expr (pe_c c_check_sizes hr (by first | decide | omega) (by rfl) (pa_cons (pv 1) (pa_cons (pe_fldK (K := K) (pv 0) rfl) pa_nil))))
      (pss_one (ps_ret (pe_c c_shown_by hr (by first | decide | omega) (by rfl) (pa_cons (pv 0) (pa_cons (pv 1) pa_nil)))))), ?_⟩
  try dsimp only [nox_K]
  walk_at "gs"
  refine ap_checkSizes hs hl ho (by omega) fun H1 k1 => ?_
  walk_at "gs"
  exact ap_shownBy (by walk_at "h") (by walk_at "h") hl fun p H2 k2 hp => k p H2 (by walk_at "k") hp
theorem ok_trace {C : Addr} (F : Fun K "trace" "trace" s_trace f fd) (T : ScT K C) (c_check_sizes : Cal CX0 P w K mg base 3 "check_sizes" (spCheckSizes K)) (c_first_of : Cal CX0 P w K mg base 1 "first_of" (spFirst K)) (c_stepped : Cal CX0 P w K mg base 4 "stepped" (spStepped K 1)) : FnOk P w K mg base CX0 7 f fd ["script", "sizes"] (spTrace K C) := by
  refine F.ok sc_trace (fun vs H Q E h => ?_) (fun cdv A outer s H vs Q E hr h => ?_)
  · obtain ⟨_, _, _, _, _, rfl, _⟩ := h
    rfl
  obtain ⟨a, b, n, l, s, rfl, hA, hs, hl, ho, k⟩ := h
  have h1 := hA.n1
  have h3 := hA.n3
  refine ⟨_, (pss_cons (ps_expr (pe_c c_check_sizes hr (by first | decide | omega) (by rfl) (pa_cons (pv 1) (pa_cons (pe_fldK (K := K) (pv 0) rfl) pa_nil))))
      (pss_cons (ps_set (i := 2) sc_trace.nd rfl (by first | exact Or.inl rfl | exact Or.inr rfl) (pe_lst (pa_cons (pe_c c_first_of hr (by first | decide | omega) (by rfl) (pa_cons (pv 1) pa_nil)) pa_nil)))
      (pss_cons (ps_for PassesOwn.never rfl (pi_tupK (K := K) (pe_fldK (K := K) (pv 0) rfl)) (pg_name (i := 3) sc_trace.nd rfl (by first | exact Or.inl rfl | exact Or.inr rfl)) (pss_one (ps_expr (pe_bm PySem.F.plainAttrs_list PySem.F.slot_list_append PySem.F.type_list_append mt_append (pv 2) (pa_cons (pe_c c_stepped hr (by first | decide | omega) (by rfl) (pa_cons (pe_ix (ix_listK (K := K)) (pv 2) (pe_un un_neg pe_int) (fun _ _ => rfl)) (pa_cons (pv 1) (pa_cons (pv 3) pa_nil)))) pa_nil)))))
      (pss_one (ps_ret (pv 2)))))), ?_⟩
  try dsimp only [nox_K]
  walk_at "gs"
  refine ap_checkSizes hs hl ho (by omega) fun H1 k1 => ?_
  walk_at "gs"
  refine ap_first (by walk_at "h") (by omega) (by omega) fun z H2 k2 hz => ?_
  walk_at "gs"
  intro p H3 np k3 e3
  walk_at "gs"
  intro pr xs hp hx
  walk_at "gs"
  have hlen := hx.length
  rw [List.length_map] at hlen
  have hln : l.length ≤ 5 := Nat.le_trans (cnts_len l) hA.cn
  have hpre : ∀ i, i < l.length → (List.range (i + 1 + 1)).map (fun j => shownZ s (l.take j)) = (List.range (i + 1)).map (fun j => shownZ s (l.take j)) ++ [shownZ s (l.take (i + 1))] := fun i hi => by
    rw [List.range_succ, List.map_append]
    rfl
  refine g_loopT (xs := xs) (fun i σ' H' => ∃ (ws : List V) (q : Addr) (y3 : Option V), σ' = [some (.ref a), some (.ref b), some (.ref p), y3] ∧ H' p = some (.lst (ws ++ [.ref q])) ∧ SqT K H' q (vI (shownZ s (l.take i))) ∧
      TdA K H' (ws ++ [.ref q]) (((List.range (i + 1)).map (fun j => shownZ s (l.take j))).map dInts) ∧ Kp [p] H3 H')
    ⟨[], z, none, rfl, e3, by walk_at "h", .cons (Td.vI (by walk_at "h")) .nil, Kp.refl _⟩ (fun i σ' H' _ ⟨_, _, _, _, _, _, _, k'⟩ => k'.sqT hp) ?_ ?_
  · rintro i x σ' H' hxi ⟨ws, q, y3, rfl, eL, hq, tL, k'⟩
    have hi : i < l.length := by
      have := (List.getElem?_eq_some_iff.mp hxi).1
      omega
    obtain ⟨x', hx', tx⟩ := (k'.tdA hx).get (i := i) (d := l[i].dat) (by simp [hi])
    rw [hxi] at hx'
    cases hx'
    have hm := List.getElem_mem hi
    walk_at "gs"
    refine g_ixL (by walk_at "h") (atI_last ws _) ?_
    walk_at "gs"
    refine ap_stepped (by walk_at "h") (by walk_at "h") (shownZ_len _ _) (by omega) tx (by rw [hl]; exact hA.ok _ hm) (by cases l[i] <;> simp [Stp.dep]) fun r H4 k4 hr2 => ?_
    walk_at "gs"
    have hwl := tL.length
    simp at hwl
    refine g_append (by walk_at "h") (by simp; omega) fun H5 k5 e5 => ?_
    walk_at "gs"
    have er : stZ s (shownZ s (l.take i)) l[i] = shownZ s (l.take (i + 1)) := by
      unfold shownZ runZ
      rw [List.take_add_one, List.getElem?_eq_getElem hi, List.foldl_append]
      rfl
    rw [er] at hr2
    refine ⟨ws ++ [.ref q], r, _, rfl, e5, by walk_at "h", ?_, by walk_at "k"⟩
    rw [hpre i hi, List.map_append]
    exact TdA.app (by walk_at "h") (.cons (Td.vI (by walk_at "h")) .nil)
  · rintro σ' H' ⟨ws, q, y3, rfl, eL, hq, tL, k'⟩
    walk_at "gs"
    rw [hlen] at tL
    exact k p _ H' (by walk_at "no") (by walk_at "k") eL tL
end
abbrev s_law_alike : Stmt := topS 63
abbrev n_law_alike : List Str := ["_law_found", "_law_due", "_law_k"]
theorem sc_law_alike : FnScope n_law_alike ["_law_found", "_law_due"] (defScope s_law_alike) := ⟨rfl, rfl, rfl, by decide +kernel, rfl, by decide +kernel, by decide +kernel⟩
section
variable {P : Program} {w : World} {K : PySem.W.Frag} {mg : Str → Option Value} {base : Heap} {f : Addr} {fd : FuncData}
theorem ok_alike {n : Nat} (F : Fun K "_law_alike" "_law_alike" s_law_alike f fd) (N : Nm mg) (c_law_alike : Cal CX0 P w K mg base n "_law_alike" (spAlike K n)) : FnOk P w K mg base CX0 (n + 1) f fd ["_law_found", "_law_due"] (spAlike K (n + 1)) := by
  have m_len := N.len
  have m_isinstance := N.isinstance
  have m_dict := N.dict
  have m_tuple := N.tuple
  have m_list := N.list
  have m_str := N.str
  have m_int := N.int
  have m_bool := N.bool
  have m_range := N.range
  refine F.ok sc_law_alike (fun vs H Q E h => ?_) (fun cdv A outer s H vs Q E hr h => ?_)
  · obtain ⟨_, _, _, rfl, _⟩ := h
    rfl
  obtain ⟨x, y, d, rfl, hx, hy, hs, hd, hw, k⟩ := h
  refine ⟨_, (pss_cons (ps_if (pt_val (pe_callB (w_isiK (K := K)) (by rfl) m_isinstance (by decide +kernel) (pa_cons (pv 1) (pa_cons (pe_bltn (v := V.ty "dict") (by rfl) m_dict (by decide +kernel) rfl) pa_nil)))) (pss_one (ps_ret (pe_and (pe_callB (w_isiK (K := K)) (by rfl) m_isinstance (by decide +kernel) (pa_cons (pv 0) (pa_cons (pe_bltn (v := V.ty "dict") (by rfl) m_dict (by decide +kernel) rfl) pa_nil))) (pe_and (pe_c c_law_alike hr (by first | decide | omega) (by rfl) (pa_cons (pe_callTy (w_listK (K := K)) (by rfl) m_list (by decide +kernel) (pa_cons (pv 0) pa_nil)) (pa_cons (pe_callTy (w_listK (K := K)) (by rfl) m_list (by decide +kernel) (pa_cons (pv 1) pa_nil)) pa_nil))) (pe_one (pe_cmpR (op_eqDK (K := K) hr) (pv 0) (pv 1) (nomark _))))))) pss_nil)
      (pss_cons (ps_if (pt_val (pe_callB (w_isiTK (K := K)) (by rfl) m_isinstance (by decide +kernel) (pa_cons (pv 1) (pa_cons (pe_tup (pa_cons (pe_bltn (v := V.ty "tuple") (by rfl) m_tuple (by decide +kernel) rfl) (pa_cons (pe_bltn (v := V.ty "list") (by rfl) m_list (by decide +kernel) rfl) pa_nil))) pa_nil)))) (pss_cons (ps_if (PW.pt (pw_or (pt_not (pt_val (pe_callB (w_isiTK (K := K)) (by rfl) m_isinstance (by decide +kernel) (pa_cons (pv 0) (pa_cons (pe_tup (pa_cons (pe_bltn (v := V.ty "tuple") (by rfl) m_tuple (by decide +kernel) rfl) (pa_cons (pe_bltn (v := V.ty "list") (by rfl) m_list (by decide +kernel) rfl) pa_nil))) pa_nil))))) (pw_or1 (pt_cmpR op_ne (pe_callB (w_isiK (K := K)) (by rfl) m_isinstance (by decide +kernel) (pa_cons (pv 0) (pa_cons (pe_bltn (v := V.ty "list") (by rfl) m_list (by decide +kernel) rfl) pa_nil))) (pe_callB (w_isiK (K := K)) (by rfl) m_isinstance (by decide +kernel) (pa_cons (pv 1) (pa_cons (pe_bltn (v := V.ty "list") (by rfl) m_list (by decide +kernel) rfl) pa_nil))) (nomark _))))) (pss_one (ps_ret pe_bl)) pss_nil)
      (pss_cons (ps_if (pt_cmpR op_ne (pe_callB (w_lenK (K := K)) (by rfl) m_len (by decide +kernel) (pa_cons (pv 0) pa_nil)) (pe_callB (w_lenK (K := K)) (by rfl) m_len (by decide +kernel) (pa_cons (pv 1) pa_nil)) (nomark _)) (pss_one (ps_ret pe_bl)) pss_nil)
      (pss_one (ps_ret (pe_cmpR (op_eqDK (K := K) hr) (pe_lc (own := [("_law_k", 2)]) (by rfl) sc_law_alike.nd (pi_range1 (by rfl) m_range (pa_cons (pe_callB (w_lenK (K := K)) (by rfl) m_len (by decide +kernel) (pa_cons (pv 1) pa_nil)) pa_nil)) (blkOk_by (own := [("_law_k", 2)]) (N := n_law_alike) (sc := defScope s_law_alike) (by decide +kernel)) (fun _ _ _ _ _ => (pg_name (i := 2) sc_law_alike.nd rfl (by first | exact Or.inl rfl | exact Or.inr rfl))) (fun _ _ _ _ _ => (pts_one (pt_not (pt_val (pe_c c_law_alike hr (by first | decide | omega) (by rfl) (pa_cons (pe_ix (ix_seqK (K := K)) (pv 0) (pv 2) (fun _ _ => rfl)) (pa_cons (pe_ix (ix_seqK (K := K)) (pv 1) (pv 2) (fun _ _ => rfl)) pa_nil))))))) (fun _ _ _ _ _ => (pv 2))) (pe_lst pa_nil) (nomark _)))))) pss_nil)
      (pss_cons (ps_if (PW.pt (pw_or (pt_cmpR w_isN (pv 1) pe_non (nomark _)) (pw_or1 (pt_val (pe_callB (w_isiK (K := K)) (by rfl) m_isinstance (by decide +kernel) (pa_cons (pv 1) (pa_cons (pe_bltn (v := V.ty "str") (by rfl) m_str (by decide +kernel) rfl) pa_nil))))))) (pss_one (ps_ret (pe_and (pe_cmpR (op_eqDK (K := K) hr) (pv 0) (pv 1) (nomark _)) (pe_one (pe_cmpR op_eq (pe_callB (w_isiK (K := K)) (by rfl) m_isinstance (by decide +kernel) (pa_cons (pv 0) (pa_cons (pe_bltn (v := V.ty "str") (by rfl) m_str (by decide +kernel) rfl) pa_nil))) (pe_callB (w_isiK (K := K)) (by rfl) m_isinstance (by decide +kernel) (pa_cons (pv 1) (pa_cons (pe_bltn (v := V.ty "str") (by rfl) m_str (by decide +kernel) rfl) pa_nil))) (nomark _)))))) pss_nil)
      (pss_one (ps_ret (pe_and (pe_callB (w_isiK (K := K)) (by rfl) m_isinstance (by decide +kernel) (pa_cons (pv 0) (pa_cons (pe_bltn (v := V.ty "int") (by rfl) m_int (by decide +kernel) rfl) pa_nil))) (pe_and (pe_cmpR op_eq (pe_callB (w_isiK (K := K)) (by rfl) m_isinstance (by decide +kernel) (pa_cons (pv 0) (pa_cons (pe_bltn (v := V.ty "bool") (by rfl) m_bool (by decide +kernel) rfl) pa_nil))) (pe_callB (w_isiK (K := K)) (by rfl) m_isinstance (by decide +kernel) (pa_cons (pv 1) (pa_cons (pe_bltn (v := V.ty "bool") (by rfl) m_bool (by decide +kernel) rfl) pa_nil))) (nomark _)) (pe_one (pe_cmpR (op_eqDK (K := K) hr) (pv 0) (pv 1) (nomark _)))))))))), ?_⟩
  try dsimp only [nox_K]
  have hself : PyData.eqv d d = true := SeqAt.eqv_refl d (SeqAt.canLay_of_shaped hs)
  walk_at "gs"
  cases d with
  | dict _ => cases hx
  | int i =>
    cases hx
    cases hy
    refine g_isiD (d := .int i) false (.int i) (by show kitB "int" "dict" = _; decide +kernel) ?_
    walk_at "gs"
    intro tp H1 ntp k1 e1
    walk_at "gs"
    refine g_isiTL (d := .int i) false e1 (.int i) rfl ?_
    walk_at "gs"
    refine g_isiD (d := .int i) false (.int i) (by show kitB "int" "str" = _; decide +kernel) ?_
    walk_at "gs"
    refine g_isiD (d := .int i) true (.int i) (by show kitB "int" "int" = _; decide +kernel) ?_
    walk_at "gs"
    refine g_isiD (d := .int i) false (.int i) (by show kitB "int" "bool" = _; decide +kernel) ?_
    walk_at "gs"
    refine g_isiD (d := .int i) false (.int i) (by show kitB "int" "bool" = _; decide +kernel) ?_
    walk_at "gs"
    refine g_rEqDp (d := .int i) (e := .int i) (.int i) (.int i) hs hs ?_
    rw [hself]
    exact k H1 k1
  | bool b =>
    cases hx
    cases hy
    refine g_isiD (d := .bool b) false (.bl b) (by show kitB "bool" "dict" = _; decide +kernel) ?_
    walk_at "gs"
    intro tp H1 ntp k1 e1
    walk_at "gs"
    refine g_isiTL (d := .bool b) false e1 (.bl b) rfl ?_
    walk_at "gs"
    refine g_isiD (d := .bool b) false (.bl b) (by show kitB "bool" "str" = _; decide +kernel) ?_
    walk_at "gs"
    refine g_isiD (d := .bool b) true (.bl b) (by show kitB "bool" "int" = _; decide +kernel) ?_
    walk_at "gs"
    refine g_isiD (d := .bool b) true (.bl b) (by show kitB "bool" "bool" = _; decide +kernel) ?_
    walk_at "gs"
    refine g_isiD (d := .bool b) true (.bl b) (by show kitB "bool" "bool" = _; decide +kernel) ?_
    walk_at "gs"
    refine g_rEqDp (d := .bool b) (e := .bool b) (.bl b) (.bl b) hs hs ?_
    rw [hself]
    exact k H1 k1
  | none =>
    cases hx
    cases hy
    refine g_isiD (d := .none) false .non (by show kitB "NoneType" "dict" = _; decide +kernel) ?_
    walk_at "gs"
    intro tp H1 ntp k1 e1
    walk_at "gs"
    refine g_isiTL (d := .none) false e1 .non rfl ?_
    walk_at "gs"
    refine g_rEqDp (d := .none) (e := .none) .non .non hs hs ?_
    rw [hself]
    walk_at "gs"
    refine g_isiD (d := .none) false .non (by show kitB "NoneType" "str" = _; decide +kernel) ?_
    walk_at "gs"
    refine g_isiD (d := .none) false .non (by show kitB "NoneType" "str" = _; decide +kernel) ?_
    walk_at "gs"
    exact k H1 k1
  | str x =>
    cases hx
    cases hy
    refine g_isiD (d := .str x) false (.str x) (by show kitB "str" "dict" = _; decide +kernel) ?_
    walk_at "gs"
    intro tp H1 ntp k1 e1
    walk_at "gs"
    refine g_isiTL (d := .str x) false e1 (.str x) rfl ?_
    walk_at "gs"
    refine g_isiD (d := .str x) true (.str x) (by show kitB "str" "str" = _; decide +kernel) ?_
    walk_at "gs"
    refine g_rEqDp (d := .str x) (e := .str x) (.str x) (.str x) hs hs ?_
    rw [hself]
    walk_at "gs"
    refine g_isiD (d := .str x) true (.str x) (by show kitB "str" "str" = _; decide +kernel) ?_
    walk_at "gs"
    refine g_isiD (d := .str x) true (.str x) (by show kitB "str" "str" = _; decide +kernel) ?_
    walk_at "gs"
    exact k H1 k1
  | list ds =>
    obtain ⟨px, xs, rfl, sx, tx⟩ : ∃ px xs, x = .ref px ∧ SqL K H px xs ∧ DpAll K H xs ds := by
      cases hx with
      | lst h1 h2 => exact ⟨_, _, rfl, h1, h2⟩
    obtain ⟨py, ys, rfl, sy, ty⟩ : ∃ py ys, y = .ref py ∧ SqL K H py ys ∧ DpAll K H ys ds := by
      cases hy with
      | lst h1 h2 => exact ⟨_, _, rfl, h1, h2⟩
    have lx := dpA_len tx
    have ly := dpA_len ty
    have hz : ds.length ≤ 1000000 := by
      have := weight_len ds
      simp only [PyData.weight] at hw
      omega
    refine g_isiD false hy (by show kitB "list" "dict" = _; decide +kernel) ?_
    walk_at "gs"
    intro tp H1 ntp k1 e1
    walk_at "gs"
    refine g_isiTL (d := .list ds) true e1 (Dp.mono k1 hy) rfl ?_
    walk_at "gs"
    intro tq H2 ntq k2 e2
    have k12 := Kp.step0 k1 k2
    walk_at "gs"
    refine g_isiTL (d := .list ds) true e2 (Dp.mono k12 hx) rfl ?_
    walk_at "gs"
    refine g_isiD true (Dp.mono k12 hx) (by show kitB "list" "list" = _; decide +kernel) ?_
    walk_at "gs"
    refine g_isiD true (Dp.mono k12 hy) (by show kitB "list" "list" = _; decide +kernel) ?_
    walk_at "gs"
    rw [lx, ly]
    refine g_else (by simp) ?_
    walk_at "gs"
    refine g_xRng1 (by omega) (by omega) ?_
    refine g_compR (G := fun D i acc H' => acc = [] ∧ Kp [] H2 H') (fun D H3 hD k3 => ⟨rfl, k3⟩) (fun D i acc H3 hD hi hacc ⟨z, k3⟩ => ?_) (fun D acc H3 hD hacc ⟨z, k3⟩ => ?_)
    · subst z
      rw [ly] at hi
      obtain ⟨u, hu, du⟩ := dpA_get (i := i) (d := ds[i]) tx (List.getElem?_eq_getElem hi)
      obtain ⟨v, hv, dv⟩ := dpA_get (i := i) (d := ds[i]) ty (List.getElem?_eq_getElem hi)
      have k13 := Kp.step0 k12 k3
      rw [Int.zero_add]
      walk_at "gs"
      refine g_ixSL (k13.sqL sx List.not_mem_nil) (atI_at rfl hu) ?_
      walk_at "gs"
      refine g_ixSL (k13.sqL sy List.not_mem_nil) (atI_at rfl hv) ?_
      walk_at "gs"
      refine ap_alike ds[i] (Dp.mono k13 du) (Dp.mono k13 dv) (shaped_memL hs _ (List.getElem_mem hi)) ?_ ?_ (fun H4 k4 => ?_)
      · have := depth_mem (List.getElem_mem hi)
        simp only [PyData.depth] at hd
        omega
      · have := weight_mem (List.getElem_mem hi)
        simp only [PyData.weight] at hw
        omega
      walk_at "gs"
      exact g_accP (k4.at_ hacc List.not_mem_nil) ⟨rfl, Kp.step0 k3 k4⟩
    · subst z
      have k13 := Kp.step0 k12 k3
      walk_at "gs"
      intro p H4 np k4 e4
      refine g_rEqDp (d := .list []) (e := .list []) (.lst (SqL.of (k4.at_ hacc List.not_mem_nil)) .nil) (.lst (SqL.of e4) .nil) (by decide +kernel) (by decide +kernel) ?_
      exact k H4 (Kp.step0 k13 k4)
  | tuple ds =>
    obtain ⟨px, xs, rfl, sx, tx⟩ : ∃ px xs, x = .ref px ∧ SqT K H px xs ∧ DpAll K H xs ds := by
      cases hx with
      | tup h1 h2 => exact ⟨_, _, rfl, h1, h2⟩
    obtain ⟨py, ys, rfl, sy, ty⟩ : ∃ py ys, y = .ref py ∧ SqT K H py ys ∧ DpAll K H ys ds := by
      cases hy with
      | tup h1 h2 => exact ⟨_, _, rfl, h1, h2⟩
    have lx := dpA_len tx
    have ly := dpA_len ty
    have hz : ds.length ≤ 1000000 := by
      have := weight_len ds
      simp only [PyData.weight] at hw
      omega
    refine g_isiD false hy (by show kitB "tuple" "dict" = _; decide +kernel) ?_
    walk_at "gs"
    intro tp H1 ntp k1 e1
    walk_at "gs"
    refine g_isiTL (d := .tuple ds) true e1 (Dp.mono k1 hy) rfl ?_
    walk_at "gs"
    intro tq H2 ntq k2 e2
    have k12 := Kp.step0 k1 k2
    walk_at "gs"
    refine g_isiTL (d := .tuple ds) true e2 (Dp.mono k12 hx) rfl ?_
    walk_at "gs"
    refine g_isiD false (Dp.mono k12 hx) (by show kitB "tuple" "list" = _; decide +kernel) ?_
    walk_at "gs"
    refine g_isiD false (Dp.mono k12 hy) (by show kitB "tuple" "list" = _; decide +kernel) ?_
    walk_at "gs"
    rw [lx, ly]
    refine g_else (by simp) ?_
    walk_at "gs"
    refine g_xRng1 (by omega) (by omega) ?_
    refine g_compR (G := fun D i acc H' => acc = [] ∧ Kp [] H2 H') (fun D H3 hD k3 => ⟨rfl, k3⟩) (fun D i acc H3 hD hi hacc ⟨z, k3⟩ => ?_) (fun D acc H3 hD hacc ⟨z, k3⟩ => ?_)
    · subst z
      rw [ly] at hi
      obtain ⟨u, hu, du⟩ := dpA_get (i := i) (d := ds[i]) tx (List.getElem?_eq_getElem hi)
      obtain ⟨v, hv, dv⟩ := dpA_get (i := i) (d := ds[i]) ty (List.getElem?_eq_getElem hi)
      have k13 := Kp.step0 k12 k3
      rw [Int.zero_add]
      walk_at "gs"
      refine g_ixST (k13.sqT sx) (atI_at rfl hu) ?_
      walk_at "gs"
      refine g_ixST (k13.sqT sy) (atI_at rfl hv) ?_
      walk_at "gs"
      refine ap_alike ds[i] (Dp.mono k13 du) (Dp.mono k13 dv) (shaped_mem hs _ (List.getElem_mem hi)) ?_ ?_ (fun H4 k4 => ?_)
      · have := depth_mem (List.getElem_mem hi)
        simp only [PyData.depth] at hd
        omega
      · have := weight_mem (List.getElem_mem hi)
        simp only [PyData.weight] at hw
        omega
      walk_at "gs"
      exact g_accP (k4.at_ hacc List.not_mem_nil) ⟨rfl, Kp.step0 k3 k4⟩
    · subst z
      have k13 := Kp.step0 k12 k3
      walk_at "gs"
      intro p H4 np k4 e4
      refine g_rEqDp (d := .list []) (e := .list []) (.lst (SqL.of (k4.at_ hacc List.not_mem_nil)) .nil) (.lst (SqL.of e4) .nil) (by decide +kernel) (by decide +kernel) ?_
      exact k H4 (Kp.step0 k13 k4)
end
abbrev s_sizes_to : Stmt := topS 51
abbrev n_sizes_to : List Str := ["wheels", "bound", "found", "wheel", "some", "size"]
theorem sc_sizes_to : FnScope n_sizes_to ["wheels", "bound"] (defScope s_sizes_to) := ⟨rfl, rfl, rfl, by decide +kernel, rfl, by decide +kernel, by decide +kernel⟩
abbrev s_is_showing : Stmt := topS 52
abbrev n_is_showing : List Str := ["thing", "place"]
theorem sc_is_showing : FnScope n_is_showing ["thing"] (defScope s_is_showing) := ⟨rfl, rfl, rfl, by decide +kernel, rfl, by decide +kernel, by decide +kernel⟩
abbrev s_fitting : Stmt := topS 53
abbrev n_fitting : List Str := ["script", "showing", "bound", "sizes"]
theorem sc_fitting : FnScope n_fitting ["script", "showing", "bound"] (defScope s_fitting) := ⟨rfl, rfl, rfl, by decide +kernel, rfl, by decide +kernel, by decide +kernel⟩
section
variable {P : Program} {w : World} {K : PySem.W.Frag} {mg : Str → Option Value} {base : Heap} {f : Addr} {fd : FuncData}
theorem ok_sizes_to (F : Fun K "sizes_to" "sizes_to" s_sizes_to f fd) (N : Nm mg) (g_LEAST_SIZE : Gc mg "LEAST_SIZE" (.int 2)) : FnOk P w K mg base CX0 1 f fd ["wheels", "bound"] (spSizesTo K) := by
  have m_range := N.range
  refine F.ok sc_sizes_to (fun vs H Q E h => ?_) (fun cdv A outer s H vs Q E hr h => ?_)
  · obtain ⟨_, _, rfl, _⟩ := h
    rfl
  obtain ⟨n, b, rfl, b2, b3, hz, hn, k⟩ := h
  refine ⟨_, (pss_cons (ps_set (i := 2) sc_sizes_to.nd rfl (by first | exact Or.inl rfl | exact Or.inr rfl) (pe_lst (pa_cons (pe_tup pa_nil) pa_nil)))
      (pss_cons (ps_for PassesOwn.never rfl (pi_range1 (by rfl) m_range (pa_cons (pv 0) pa_nil)) (pg_name (i := 3) sc_sizes_to.nd rfl (by first | exact Or.inl rfl | exact Or.inr rfl)) (pss_one (ps_setLc2 (i := 2) (own := [("some", 4), ("size", 5)]) (vs1 := [5]) (tt := tYes) (tt1 := tYes) (by rfl) sc_sizes_to.nd rfl rfl (sw_true rfl rfl rfl (by decide +kernel)) (pi_listK (K := K) (pv 2)) (blkOk_by (own := [("some", 4), ("size", 5)]) (N := n_sizes_to) (sc := defScope s_sizes_to) (by decide +kernel)) (by decide) (fun _ _ _ _ _ => (pg_name (i := 4) sc_sizes_to.nd rfl (by first | exact Or.inl rfl | exact Or.inr rfl))) (fun _ _ _ _ _ => pts_nil) (fun _ _ _ _ _ => (pi_range2 (by rfl) m_range (pa_cons (pe_g (by rfl) g_LEAST_SIZE) (pa_cons (pe_op op_add (pv 1) pe_int) pa_nil)))) (fun _ _ _ _ _ => (pg_name (i := 5) sc_sizes_to.nd rfl (by first | exact Or.inl rfl | exact Or.inr rfl))) (fun _ _ _ _ _ => pts_nil) (fun _ _ _ _ _ => (pe_tup (pa_starK (K := K) (pv 4) (pa_cons (pv 5) pa_nil)))))))
      (pss_one (ps_ret (pv 2))))), ?_⟩
  try dsimp only [nox_K]
  walk_at "gs"
  intro pe H1 ne k1 e1
  walk_at "gs"
  intro pf H2 nf k2 e2
  walk_at "gs"
  refine g_xRng1 (by omega) (by omega) ?_
  refine g_loopR (fun i σ' H' => ∃ p ws y3 y4 y5, σ' = [some (.int n), some (.int b), some (.ref p), y3, y4, y5] ∧ H p = none ∧ Kp [] H H' ∧ H' p = some (.lst ws) ∧ TdA K H' ws ((rowsZ b i).map dInts))
    ⟨pf, _, _, _, _, rfl, Kp.none k1 nf, by walk_at "k", e2, .cons (Td.vI (ns := []) (by walk_at "h")) .nil⟩ ?_ ?_
  · clear k1 k2 e1 e2 ne nf
    rintro i σ' H3 hi ⟨p, ws, y3, y4, y5, rfl, np, k3, e3, t3⟩
    have hw := t3.length
    rw [List.length_map] at hw
    have hz3 := hz i (by omega)
    have hz4 := hz (i + 1) (by omega)
    walk_at "gs"
    refine g_lc2 ?_
    walk_at "gs"
    refine g_comp2L (xs := ws) (fun D i' acc H' => Kp [] H3 H' ∧ TdA K H' acc ((((rowsZ b i).take i').flatMap (ext b)).map dInts)) (fun D H4 hD k4 => ⟨k4, .nil⟩) (fun D i' acc H4 _ ⟨k4, _⟩ => SqL.of (k4.at_ e3 List.not_mem_nil)) ?_ ?_
    · rintro D i' x acc H4 nD hx eD ⟨k4, ta⟩
      have hi' : i' < (rowsZ b i).length := by
        have := (List.getElem?_eq_some_iff.mp hx).1
        omega
      obtain ⟨r, hr⟩ : ∃ r, (rowsZ b i)[i']? = some r := ⟨_, List.getElem?_eq_getElem hi'⟩
      obtain ⟨x', hx', tx⟩ := t3.get (i := i') (d := dInts r) (by rw [List.getElem?_map, hr]; rfl)
      rw [hx] at hx'
      cases hx'
      obtain ⟨px, xs, rfl, sx, tx⟩ := tx.inv
      obtain rfl := tx.vIInv
      have hrl : r.length = i := (rowsZ_mem (List.mem_of_getElem? hr)).1
      walk_at "gs"
      refine g_xTurn2 rfl ?_
      walk_at "gs"
      refine g_xRng2 (by omega) ?_
      refine g_inR (fun j acc H' => Kp [] H3 H' ∧ TdA K H' acc ((((rowsZ b i).take i').flatMap (ext b) ++ ((List.range j).map fun (j : Nat) => r ++ [2 + (j : Int)])).map dInts)) ⟨acc, eD, k4, by simpa using ta⟩ ?_ ?_
      · rintro j acc H5 hj eD5 ⟨k5, t5⟩
        walk_at "gs"
        have hal := t5.length
        rw [List.length_map] at hal
        have hpl := part_len (b := b) (j := j) hr (by omega)
        have hfl : ((rowsZ b i).flatMap (ext b)).length ≤ 100000 := hz4
        refine g_mkT (by simp; omega) ?_
        intro pt H6 npt k6 e6
        have s6 : SqT K H6 pt (vI (r ++ [2 + (j : Int)])) := by
          rw [vI_app]
          exact SqT.of e6
        refine g_xEl (by walk_at "h") (by omega) fun H7 k7 e7 => ⟨by walk_at "k", ?_⟩
        rw [ext_take, ← List.append_assoc, List.map_append]
        exact (k7.tdA (k6.tdA t5)).app (.cons (k7.td (Td.vI s6)) .nil)
      · rintro acc H5 eD5 ⟨k5, t5⟩
        refine g_accP eD5 ⟨k5, ?_⟩
        have hb : ((b : Int) + 1 - 2).toNat = b - 1 := by omega
        rw [hb] at t5
        rw [flat_take (ext b) hr]
        exact t5
    · rintro D acc H4 nD eD ⟨k4, ta⟩
      have hws : ws.length = (rowsZ b i).length := hw
      rw [hws, List.take_length] at ta
      exact ⟨D, acc, _, _, _, rfl, Kp.none k3 nD, Kp.step0 k3 k4, eD, ta⟩
  · rintro σ' H3 ⟨p, ws, y3, y4, y5, rfl, np, k3, e3, t3⟩
    walk_at "gs"
    exact k p ws H3 np k3 e3 (by simpa using t3)
theorem ok_is_showing (F : Fun K "is_showing" "is_showing" s_is_showing f fd) (N : Nm mg) : FnOk P w K mg base CX0 1 f fd ["thing"] (spIsShowing K) := by
  have m_isinstance := N.isinstance
  have m_tuple := N.tuple
  have m_int := N.int
  have m_bool := N.bool
  have m_all := N.all
  refine F.ok sc_is_showing (fun vs H Q E h => ?_) (fun cdv A outer s H vs Q E hr h => ?_)
  · obtain ⟨_, _, rfl, _⟩ := h
    rfl
  obtain ⟨v, d, rfl, hD, hsz, k⟩ := h
  refine ⟨_, (pss_one (ps_ret (pe_and (pe_callB (w_isiK (K := K)) (by rfl) m_isinstance (by decide +kernel) (pa_cons (pv 0) (pa_cons (pe_bltn (v := V.ty "tuple") (by rfl) m_tuple (by decide +kernel) rfl) pa_nil))) (pe_one (pe_callB (cr_allK (K := K) (by rfl)) (by rfl) m_all (by decide +kernel) (pa_cons (pe_lc (own := [("place", 1)]) (tt := tYes) (by rfl) sc_is_showing.nd (pi_tupK (K := K) (pv 0)) (blkOk_by (own := [("place", 1)]) (N := n_is_showing) (sc := defScope s_is_showing) (by decide +kernel)) (fun _ _ _ _ _ => (pg_name (i := 1) sc_is_showing.nd rfl (by first | exact Or.inl rfl | exact Or.inr rfl))) (fun _ _ _ _ _ => pts_nil) (fun _ _ _ _ _ => (pe_and (pe_callB (w_isiK (K := K)) (by rfl) m_isinstance (by decide +kernel) (pa_cons (pv 1) (pa_cons (pe_bltn (v := V.ty "int") (by rfl) m_int (by decide +kernel) rfl) pa_nil))) (pe_one (pe_not (pe_callB (w_isiK (K := K)) (by rfl) m_isinstance (by decide +kernel) (pa_cons (pv 1) (pa_cons (pe_bltn (v := V.ty "bool") (by rfl) m_bool (by decide +kernel) rfl) pa_nil)))))))) pa_nil)))))), ?_⟩
  try dsimp only [nox_K]
  walk_at "gs"
  have fin : ∀ {b : Bool} {H' : Hp}, Kp [] H H' → showD d = b → Q (.bl b) H' := fun k' e => e ▸ k _ k'
  by_cases htup : tyD d = "tuple"
  · cases d with
    | tuple ds =>
      refine g_isiD true hD (by show kitB "tuple" "tuple" = _; decide +kernel) ?_
      obtain @⟨⟩ | @⟨⟩ | @⟨⟩ | @⟨⟩ | @⟨⟩ | @⟨a, xs, _, hS, hA⟩ := hD
      have hl2 := dpA_len hA
      walk_at "gs"
      refine g_compT (xs := xs) (fun D i acc H3 => Kp [] H H3 ∧ acc = ((ds.take i).map isIntD).map V.bl) (fun D H1 nD k1 => ⟨k1, rfl⟩) (fun D i acc H' _ ⟨k1, _⟩ => k1.sqT hS) ?_ ?_
      · rintro D2 i x acc H3 nD2 hx eD2 ⟨k3, rfl⟩
        obtain ⟨e, he, hx'⟩ := dp_item hA hx
        have hxe := k3.dp hx'
        have hlen : ds.length ≤ 1000 := hsz _ rfl
        have hz : (((ds.take i).map isIntD).map V.bl).length ≤ 1000000 := by
          simp
          omega
        have et := take_next (g := isIntD) he
        walk_at "gs"
        have put : xEl D2 (accP D2 fun acc H3 => Kp [] H H3 ∧ acc = ((ds.take (i + 1)).map isIntD).map V.bl) (V.bl (isIntD e)) H3 := by
          refine g_xEl (by walk_at "h") hz fun H5 k5 e5 => ⟨by walk_at "k", ?_⟩
          rw [et, List.map_append]
          rfl
        cases e with
        | int i =>
          refine g_isiD true hxe (by show kitB "int" "int" = _; decide +kernel) ?_
          walk_at "gs"
          refine g_isiD false hxe (by show kitB "int" "bool" = _; decide +kernel) ?_
          walk_at "gs"
          exact put
        | bool b =>
          refine g_isiD true hxe (by show kitB "bool" "int" = _; decide +kernel) ?_
          walk_at "gs"
          refine g_isiD true hxe (by show kitB "bool" "bool" = _; decide +kernel) ?_
          walk_at "gs"
          exact put
        | dict _ => cases hxe
        | none =>
          refine g_isiD false hxe (by show kitB "NoneType" "int" = _; decide +kernel) ?_
          walk_at "gs"
          exact put
        | str _ =>
          refine g_isiD false hxe (by show kitB "str" "int" = _; decide +kernel) ?_
          walk_at "gs"
          exact put
        | list _ =>
          refine g_isiD false hxe (by show kitB "list" "int" = _; decide +kernel) ?_
          walk_at "gs"
          exact put
        | tuple _ =>
          refine g_isiD false hxe (by show kitB "tuple" "int" = _; decide +kernel) ?_
          walk_at "gs"
          exact put
      · rintro D2 acc H3 nD2 eD2 ⟨k3, rfl⟩
        rw [hl2, List.take_length] at eD2
        walk_at "gs"
        refine g_all (SqL.of eD2) ?_
        refine fin (by walk_at "k") ?_
        simp only [showD, List.all_map]
        rfl
    | _ => exact (not_tup htup nofun).elim
  · refine g_isiD false hD (kit_no htup) ?_
    walk_at "gs"
    refine fin (Kp.refl _) ?_
    cases d with
    | tuple _ => exact (htup rfl).elim
    | _ => rfl
theorem ok_fitting {C : Addr} (F : Fun K "fitting" "fitting" s_fitting f fd) (T : ScT K C) (c_is_integer : Cal CX0 P w K mg base 1 "is_integer" (spIsInt K)) (c_is_showing : Cal CX0 P w K mg base 1 "is_showing" (spIsShowing K)) (c_sizes_to : Cal CX0 P w K mg base 1 "sizes_to" (spSizesTo K))
    (c_shown_by : Cal CX0 P w K mg base 6 "shown_by" (spShownBy K C)) (g_LEAST_SIZE : Gc mg "LEAST_SIZE" (.int 2)) (g_MOST_BOUND : Gc mg "MOST_BOUND" (.int 12)) : FnOk P w K mg base CX0 7 f fd ["script", "showing", "bound"] (spFitting K C) := by
  refine F.ok sc_fitting (fun vs H Q E h => ?_) (fun cdv A outer s H vs Q E hr h => ?_)
  · obtain ⟨_, _, _, _, _, _, rfl, _⟩ := h
    rfl
  obtain ⟨a, n, b, l, v, d, rfl, so, hD, hsz, hsh, b2, b12, hz, k⟩ := h
  refine ⟨_, (pss_cons (ps_if (pt_not (pt_val (pe_c c_is_integer hr (by first | decide | omega) (by rfl) (pa_cons (pv 2) (pa_cons (pe_g (by rfl) g_LEAST_SIZE) (pa_cons (pe_g (by rfl) g_MOST_BOUND) pa_nil)))))) (pss_one ps_never) pss_nil)
      (pss_cons (ps_if (pt_not (pt_val (pe_c c_is_showing hr (by first | decide | omega) (by rfl) (pa_cons (pv 1) pa_nil)))) (pss_one (ps_ret (pe_lst pa_nil))) pss_nil)
      (pss_one (ps_ret (pe_lc (own := [("sizes", 3)]) (by rfl) sc_fitting.nd (pi_listK (K := K) (pe_c c_sizes_to hr (by first | decide | omega) (by rfl) (pa_cons (pe_fldK (K := K) (pv 0) rfl) (pa_cons (pv 2) pa_nil)))) (blkOk_by (own := [("sizes", 3)]) (N := n_fitting) (sc := defScope s_fitting) (by decide +kernel)) (fun _ _ _ _ _ => (pg_name (i := 3) sc_fitting.nd rfl (by first | exact Or.inl rfl | exact Or.inr rfl))) (fun _ _ _ _ _ => (pts_one (pt_cmpR (op_eqDK (K := K) hr) (pe_c c_shown_by hr (by first | decide | omega) (by rfl) (pa_cons (pv 0) (pa_cons (pv 3) pa_nil))) (pv 1) (nomark _)))) (fun _ _ _ _ _ => (pv 3))))))), ?_⟩
  try dsimp only [nox_K]
  walk_at "gs"
  intro H1 k1
  have hb : intIn 2 12 (.int (b : Int)) = true := by
    simp only [intIn, Bool.and_eq_true, decide_eq_true_eq]
    omega
  rw [hb]
  walk_at "gs"
  refine ap_isShowing (d := d) (by walk_at "h") hsz fun H2 k2 => ?_
  cases hsd : showD d with
  | false =>
    walk_at "gs"
    intro p H3 np k3 e3
    refine k p [] H3 (by walk_at "no") (by walk_at "k") e3 ?_
    rw [hsd]
    exact .nil
  | true =>
    walk_at "gs"
    refine ap_sizesTo b2 (by omega) hz (by have := so.n3; omega) fun p ws H3 np k3 e3 t3 => ?_
    have hw := t3.length
    rw [List.length_map] at hw
    have hzn := hz n (Nat.le_refl _)
    walk_at "gs"
    refine g_compL (xs := ws) (fun D i acc H' => Kp [] H3 H' ∧ TdA K H' acc ((((rowsZ b n).take i).filter fun r => PyData.eqv (dInts (shownZ r l)) d).map dInts)) (fun D H4 hD4 k4 => ⟨k4, .nil⟩) (fun D i acc H4 _ ⟨k4, _⟩ => SqL.of (k4.at_ e3 List.not_mem_nil)) ?_ ?_
    · rintro D i x acc H4 nD hx eD ⟨k4, ta⟩
      have hi' : i < (rowsZ b n).length := by
        have := (List.getElem?_eq_some_iff.mp hx).1
        omega
      obtain ⟨r, hr⟩ : ∃ r, (rowsZ b n)[i]? = some r := ⟨_, List.getElem?_eq_getElem hi'⟩
      obtain ⟨x', hx', tx⟩ := t3.get (i := i) (d := dInts r) (by rw [List.getElem?_map, hr]; rfl)
      rw [hx] at hx'
      cases hx'
      obtain ⟨px, xs, rfl, sx, tx⟩ := tx.inv
      obtain rfl := tx.vIInv
      obtain ⟨ro, rl⟩ := SzOk.row (by omega) (List.mem_of_getElem? hr)
      walk_at "gs"
      refine ap_shownBy (s := r) (by walk_at "h") (k4.sqT sx) rl fun p2 H5 k5 s5 => ?_
      walk_at "gs"
      have k45 : Kp [] H3 H5 := Kp.step0 k4 k5
      have kall : Kp [] H H5 := by walk_at "k"
      refine g_rEqDp (d := dInts (shownZ r l)) (e := d) (Td.vI s5).dp (Dp.mono kall hD) (dInts_s _) hsh ?_
      walk_at "gs"
      have hal : acc.length ≤ 1000000 := by
        have h1 := ta.length
        rw [List.length_map] at h1
        have h2 := List.length_filter_le (fun r => PyData.eqv (dInts (shownZ r l)) d) ((rowsZ b n).take i)
        have h3 : ((rowsZ b n).take i).length ≤ (rowsZ b n).length := by simp; omega
        omega
      cases he : PyData.eqv (dInts (shownZ r l)) d with
      | true =>
        walk_at "gs"
        refine g_xEl (k5.at_ eD List.not_mem_nil) hal fun H6 k6 e6 => ⟨Kp.step1 k45 k6 (.inr nD), ?_⟩
        rw [filter_take hr, he, List.map_append]
        exact (k6.tdA (k5.tdA ta)).app (.cons (k6.td (k5.td (k4.td (Td.vI sx)))) .nil)
      | false =>
        walk_at "gs"
        refine g_accP (k5.at_ eD List.not_mem_nil) ⟨k45, ?_⟩
        rw [filter_take hr, he]
        simpa using k5.tdA ta
    · rintro D acc H4 nD eD ⟨k4, ta⟩
      rw [hw, List.take_length] at ta
      refine k D acc H4 (by walk_at "no") (by walk_at "k") eD ?_
      rw [hsd]
      exact ta
end
abbrev s_Walk_go : Stmt := inClass (topS 59) 4
abbrev n_Walk_go : List Str := ["self", "step"]
theorem sc_Walk_go : FnScope n_Walk_go ["self", "step"] (defScope s_Walk_go) := ⟨rfl, rfl, rfl, by decide +kernel, rfl, by decide +kernel, by decide +kernel⟩
abbrev s_Walk_showing : Stmt := inClass (topS 59) 1
abbrev n_Walk_showing : List Str := ["self"]
theorem sc_Walk_showing : FnScope n_Walk_showing ["self"] (defScope s_Walk_showing) := ⟨rfl, rfl, rfl, by decide +kernel, rfl, by decide +kernel, by decide +kernel⟩
abbrev s_Walk_log : Stmt := inClass (topS 59) 2
abbrev n_Walk_log : List Str := ["self"]
theorem sc_Walk_log : FnScope n_Walk_log ["self"] (defScope s_Walk_log) := ⟨rfl, rfl, rfl, by decide +kernel, rfl, by decide +kernel, by decide +kernel⟩
abbrev s_Walk_len : Stmt := inClass (topS 59) 3
abbrev n_Walk_len : List Str := ["self"]
theorem sc_Walk_len : FnScope n_Walk_len ["self"] (defScope s_Walk_len) := ⟨rfl, rfl, rfl, by decide +kernel, rfl, by decide +kernel, by decide +kernel⟩
abbrev s_Walk_do : Stmt := inClass (topS 59) 5
abbrev n_Walk_do : List Str := ["self", "step"]
theorem sc_Walk_do : FnScope n_Walk_do ["self", "step"] (defScope s_Walk_do) := ⟨rfl, rfl, rfl, by decide +kernel, rfl, by decide +kernel, by decide +kernel⟩
section
variable {P : Program} {w : World} {K : PySem.W.Frag} {mg : Str → Option Value} {base : Heap} {f : Addr} {fd : FuncData}
theorem ok_wshowing {C : Addr} (F : Fun K "showing" "Walk.showing" s_Walk_showing f fd) (T : WkT K C) : FnOk P w K mg base CX0 1 f fd ["self"] (spWShowing K C) := by
  refine F.ok sc_Walk_showing (fun vs H Q E h => ?_) (fun cdv A outer s H vs Q E hr h => ?_)
  · obtain ⟨_, _, _, _, _, rfl, _⟩ := h
    rfl
  obtain ⟨a, ps, s, log, gone, rfl, wk, k⟩ := h
  refine ⟨_, (pss_one (ps_ret (pe_ix (ix_listK (K := K)) (pe_fldK (K := K) (pv 0) rfl) (pe_un un_neg pe_int) (fun _ _ => rfl)))), ?_⟩
  try dsimp only [nox_K]
  obtain ⟨dx, fs, pr, pd, pu, b, rs, ds, us, rfl, e, z, nm, l1, l2, l3, l4, sb, e1, e2, e3, t1, t2, t3, n1, n2, n3⟩ := wk.at_
  walk_at "gs"
  refine g_xFld e T.cl T.nR l2 ?_
  walk_at "gs"
  have hal : rs.length = log.length + 1 := by
    have := t1.length
    rw [List.length_map, traceZ_len] at this
    exact this
  obtain ⟨u, hu, du⟩ := t1.get (i := log.length) (d := dInts (shownZ s log)) (by rw [List.getElem?_map, traceZ_last]; rfl)
  refine g_ixL (xs := rs) (SqL.of e1) (v := u) ?_ ?_
  · rw [← hu]
    exact atI_end hal
  obtain ⟨p, xu, rfl, su, tu⟩ := du.inv
  obtain rfl := tu.vIInv
  exact k p H (Kp.refl _) su
theorem ok_wlog {C : Addr} (F : Fun K "log" "Walk.log" s_Walk_log f fd) (N : Nm mg) (T : WkT K C) : FnOk P w K mg base CX0 1 f fd ["self"] (spWLog K C) := by
  have m_list := N.list
  refine F.ok sc_Walk_log (fun vs H Q E h => ?_) (fun cdv A outer s H vs Q E hr h => ?_)
  · obtain ⟨_, _, _, _, _, rfl, _⟩ := h
    rfl
  obtain ⟨a, ps, s, log, gone, rfl, wk, hz, k⟩ := h
  refine ⟨_, (pss_one (ps_ret (pe_callTy (w_listK (K := K)) (by rfl) m_list (by decide +kernel) (pa_cons (pe_fldK (K := K) (pv 0) rfl) pa_nil)))), ?_⟩
  try dsimp only [nox_K]
  obtain ⟨dx, fs, pr, pd, pu, b, rs, ds, us, rfl, e, z, nm, l1, l2, l3, l4, sb, e1, e2, e3, t1, t2, t3, n1, n2, n3⟩ := wk.at_
  walk_at "gs"
  refine g_xFld e T.cl T.nS l3 ?_
  walk_at "gs"
  intro p H1 np k1 x1
  exact k p ds H1 np k1 x1 (k1.tdA t2)
theorem ok_wlen {C : Addr} (F : Fun K "__len__" "Walk.__len__" s_Walk_len f fd) (N : Nm mg) (T : WkT K C) : FnOk P w K mg base CX0 1 f fd ["self"] (spWLen K C) := by
  have m_len := N.len
  refine F.ok sc_Walk_len (fun vs H Q E h => ?_) (fun cdv A outer s H vs Q E hr h => ?_)
  · obtain ⟨_, _, _, _, _, rfl, _⟩ := h
    rfl
  obtain ⟨a, ps, s, log, gone, rfl, wk, k⟩ := h
  refine ⟨_, (pss_one (ps_ret (pe_callB (w_lenK (K := K)) (by rfl) m_len (by decide +kernel) (pa_cons (pe_fldK (K := K) (pv 0) rfl) pa_nil)))), ?_⟩
  try dsimp only [nox_K]
  obtain ⟨dx, fs, pr, pd, pu, b, rs, ds, us, rfl, e, z, nm, l1, l2, l3, l4, sb, e1, e2, e3, t1, t2, t3, n1, n2, n3⟩ := wk.at_
  walk_at "gs"
  refine g_xFld e T.cl T.nS l3 ?_
  walk_at "gs"
  have hal : ds.length = log.length := by
    have := t2.length
    rwa [List.length_map] at this
  rw [hal]
  exact k H (Kp.refl _)
theorem ok_wgo {C : Addr} (F : Fun K "go" "Walk.go" s_Walk_go f fd) (T : WkT K C) (c_stepped : Cal CX0 P w K mg base 4 "stepped" (spStepped K 1)) : FnOk P w K mg base CX0 5 f fd ["self", "step"] (spGo K C) := by
  refine F.ok sc_Walk_go (fun vs H Q E h => ?_) (fun cdv A outer s H vs Q E hr h => ?_)
  · obtain ⟨_, _, _, _, _, _, _, rfl, _⟩ := h
    rfl
  obtain ⟨a, ps, s, log, gone, v, st, rfl, wk, hv, ho, hz, k⟩ := h
  refine ⟨_, (pss_cons (ps_expr (pe_bm PySem.F.plainAttrs_list PySem.F.slot_list_append PySem.F.type_list_append mt_append (pe_fldK (K := K) (pv 0) rfl) (pa_cons (pe_c c_stepped hr (by first | decide | omega) (by rfl) (pa_cons (pe_ix (ix_listK (K := K)) (pe_fldK (K := K) (pv 0) rfl) (pe_un un_neg pe_int) (fun _ _ => rfl)) (pa_cons (pe_fldK (K := K) (pv 0) rfl) (pa_cons (pv 1) pa_nil)))) pa_nil)))
      (pss_one (ps_expr (pe_bm PySem.F.plainAttrs_list PySem.F.slot_list_append PySem.F.type_list_append mt_append (pe_fldK (K := K) (pv 0) rfl) (pa_cons (pv 1) pa_nil))))), ?_⟩
  try dsimp only [nox_K]
  obtain ⟨dx, fs, pr, pd, pu, b, rs, ds, us, rfl, e, z, nm, l1, l2, l3, l4, sb, e1, e2, e3, t1, t2, t3, n1, n2, n3⟩ := wk.at_
  have hal : rs.length = log.length + 1 := by
    have := t1.length
    rw [List.length_map, traceZ_len] at this
    exact this
  have hdl : ds.length = log.length := by
    have := t2.length
    rwa [List.length_map] at this
  have nar : a ≠ pr := ne_of e e1 fun z => by cases z
  have nad : a ≠ pd := ne_of e e2 fun z => by cases z
  walk_at "gs"
  refine g_xFld e T.cl T.nR l2 ?_
  walk_at "gs"
  refine g_xFld e T.cl T.nR l2 ?_
  walk_at "gs"
  obtain ⟨u, hu, du⟩ := t1.get (i := log.length) (d := dInts (shownZ s log)) (by rw [List.getElem?_map, traceZ_last]; rfl)
  refine g_ixL (xs := rs) (SqL.of e1) (v := u) (by rw [← hu]; exact atI_end hal) ?_
  obtain ⟨p, xu, rfl, su, tu⟩ := du.inv
  obtain rfl := tu.vIInv
  walk_at "gs"
  refine g_xFld e T.cl T.nW l1 ?_
  walk_at "gs"
  refine ap_stepped (z := shownZ s log) (s := s) (st := st) su sb (by rw [shownZ_len]) (by have := wk.n3; omega) hv ho (by cases st <;> simp [Stp.dep]) fun p2 H1 k1 s1 => ?_
  walk_at "gs"
  refine g_append (xs := rs) (k1.at_ e1 List.not_mem_nil) (by omega) fun H2 k2 x2 => ?_
  walk_at "gs"
  refine g_xFld (k2.at_ (k1.at_ e List.not_mem_nil) (by simpa using nar)) T.cl T.nS l3 ?_
  walk_at "gs"
  have y2 : H2 pd = some (.lst ds) := k2.at_ (k1.at_ e2 List.not_mem_nil) (by simpa using Ne.symm n1)
  refine g_append (xs := ds) y2 (by omega) fun H3 k3 x3 => ?_
  walk_at "gs"
  refine k H3 ?_ ⟨⟨dx, fs, pr, pd, pu, b, _, _, us, rfl, k3.at_ (k2.at_ (k1.at_ e List.not_mem_nil) (by simpa using nar)) (by simpa using nad), z, nm, l1, l2, l3, l4, k3.sqT (k2.sqT (k1.sqT sb)), k3.at_ x2 (by simpa using n1), x3, k3.at_ (k2.at_ (k1.at_ e3 List.not_mem_nil) (by simpa using Ne.symm n2)) (by simpa using Ne.symm n3), ?_, ?_, k3.tdA (k2.tdA (k1.tdA t3)), n1, n2, n3⟩, wk.so, ?_, wk.okg, wk.n1, wk.n3⟩
  · exact Kp.step1 (Kp.step1 (Kp.step0 (Kp.refl _) k1) k2 (.inl (by simp))) k3 (.inl (by simp))
  · rw [traceZ_snoc, shownZ_snoc, List.map_append]
    exact (k3.tdA (k2.tdA (k1.tdA t1))).app (.cons (k3.td (k2.td (Td.vI s1))) .nil)
  · rw [List.map_append]
    exact (k3.tdA (k2.tdA (k1.tdA t2))).app (.cons (k3.td (k2.td (k1.td hv))) .nil)
  · intro x hx
    rcases List.mem_append.mp hx with y | y
    · exact wk.ok x y
    · rw [List.mem_singleton.mp y]
      exact ho
theorem ok_wdo {C : Addr} (F : Fun K "do" "Walk.do" s_Walk_do f fd) (N : Nm mg) (T : WkT K C) (c_is_step : Cal CX0 P w K mg base 4 "is_step" (spIsStep K)) (q_Walk_go : Met CX0 P w K mg base 5 C "go" (spGo K C)) : FnOk P w K mg base CX0 6 f fd ["self", "step"] (spWDo K C) := by
  have m_len := N.len
  refine F.ok sc_Walk_do (fun vs H Q E h => ?_) (fun cdv A outer s H vs Q E hr h => ?_)
  · obtain ⟨_, _, _, _, _, _, _, rfl, _⟩ := h
    rfl
  obtain ⟨a, ps, s, log, gone, v, st, rfl, wk, hv, ho, hcn, hz, k⟩ := h
  refine ⟨_, (pss_cons (ps_if (pt_not (pt_val (pe_c c_is_step hr (by first | decide | omega) (by rfl) (pa_cons (pv 1) (pa_cons (pe_callB (w_lenK (K := K)) (by rfl) m_len (by decide +kernel) (pa_cons (pe_fldK (K := K) (pv 0) rfl) pa_nil)) pa_nil))))) (pss_one ps_never) pss_nil)
      (pss_cons (ps_expr (pe_me q_Walk_go hr (by decide) (pv 0) (pa_cons (pv 1) pa_nil)))
      (pss_cons (ps_fld (pv 0) (pe_lst pa_nil) rfl)
      (pss_one (ps_ret (pe_ix (ix_listK (K := K)) (pe_fldK (K := K) (pv 0) rfl) (pe_un un_neg pe_int) (fun _ _ => rfl))))))), ?_⟩
  try dsimp only [nox_K]
  obtain ⟨dx, fs, pr, pd, pu, b, rs, ds, us, hps, e, z, nm, l1, l2, l3, l4, sb, e1, e2, e3, t1, t2, t3, n1, n2, n3⟩ := wk.at_
  walk_at "gs"
  refine g_xFld e T.cl T.nW l1 ?_
  walk_at "gs"
  rw [vI_length]
  refine ap_isStep (d := st.dat) hv.dp ((lay_st st).sh (by decide)) (sz_st hcn) fun H1 k1 => ?_
  rw [stepD_ok ho]
  walk_at "gs"
  refine g_xMe (k1.at_ e List.not_mem_nil) nm.1 ?_
  walk_at "gs"
  have wk1 : Wlk K C H1 a ps s log gone := k1.wlk wk fun _ _ => List.not_mem_nil
  refine ⟨a, ps, s, log, gone, v, st, rfl, wk1, k1.td hv, ho, hz, fun H2 k2 w2 => ?_⟩
  walk_at "gs"
  obtain ⟨dx, fs, pr, pd, pu, b, rs, ds, us, hps, e, z, nm, l1, l2, l3, l4, sb, e1, e2, e3, t1, t2, t3, n1, n2, n3⟩ := w2.at_
  intro pn H3 npn k3 x3
  have nan : a ≠ pn := ne_of_none e npn
  walk_at "gs"
  refine g_xSF (k3.at_ e List.not_mem_nil) T.cl T.nU (by omega) fun H4 k4 x4 => ?_
  walk_at "gs"
  have npr : pr ≠ pn := ne_of_none e1 npn
  have npd : pd ≠ pn := ne_of_none e2 npn
  have nap : a ≠ pr := ne_of e e1 fun z => by cases z
  have nad : a ≠ pd := ne_of e e2 fun z => by cases z
  have m1 : ∀ g : Str, ¬ g = ("undone" : Str) → (putF "undone" (V.ref pn) fs).lookup g = fs.lookup g := fun g hg => by rw [lookup_putF, if_neg hg]
  have lr : (putF "undone" (V.ref pn) fs).lookup ("rows" : Str) = some (.ref pr) := by rw [m1 _ (by decide +kernel)]; exact l2
  refine g_xFld x4 T.cl T.nR lr ?_
  walk_at "gs"
  have r4 : H4 pr = some (.lst rs) := k4.at_ (k3.at_ e1 List.not_mem_nil) (by simpa using Ne.symm nap)
  have hal : rs.length = (log ++ [st]).length + 1 := by
    have := t1.length
    rw [List.length_map, traceZ_len] at this
    exact this
  have t4 := k4.tdA (k3.tdA t1)
  obtain ⟨u, hu, du⟩ := t4.get (i := (log ++ [st]).length) (d := dInts (shownZ s (log ++ [st]))) (by rw [List.getElem?_map, traceZ_last]; rfl)
  refine g_ixL (xs := rs) (SqL.of r4) (v := u) (by rw [← hu]; exact atI_end hal) ?_
  obtain ⟨p, xu, rfl, su, tu⟩ := du.inv
  obtain rfl := tu.vIInv
  have hlen : (putF "undone" (V.ref pn) fs).length < 900 := by
    rw [putF_same _ _ l4]
    exact z
  refine k p [a, pr, pd, pn] H4 ?_ ?_ ⟨⟨dx, _, pr, pd, pn, b, rs, ds, [], rfl, x4, hlen, ⟨by rw [m1 _ (by decide +kernel)]; exact nm.1, by rw [m1 _ (by decide +kernel)]; exact nm.2.1, by rw [m1 _ (by decide +kernel)]; exact nm.2.2.1, by rw [m1 _ (by decide +kernel)]; exact nm.2.2.2.1, by rw [m1 _ (by decide +kernel)]; exact nm.2.2.2.2⟩, by rw [m1 _ (by decide +kernel)]; exact l1, lr, by rw [m1 _ (by decide +kernel)]; exact l3, by rw [lookup_putF, if_pos rfl], k4.sqT (k3.sqT sb), r4, k4.at_ (k3.at_ e2 List.not_mem_nil) (by simpa using Ne.symm nad), k4.at_ x3 (by simpa using Ne.symm nan), t4, k4.tdA (k3.tdA t2), .nil, n1, npr, npd⟩, w2.so, w2.ok, fun x h => (List.not_mem_nil h).elim, w2.n1, w2.n3⟩ su
  · exact Kp.step1 (Kp.step0 (Kp.trans (Kp.step0 (Kp.refl _) k1) k2) k3) k4 (.inl (by rw [hps]; simp))
  · intro x hx
    simp only [List.mem_cons, List.not_mem_nil, or_false] at hx
    rcases hx with rfl | rfl | rfl | rfl
    · exact .inl (by rw [hps]; simp)
    · exact .inl (by rw [hps]; simp)
    · exact .inl (by rw [hps]; simp)
    · exact .inr (Th.none k1.th (Th.none k2.th npn))
end
abbrev s_Walk_script : Stmt := inClass (topS 59) 8
abbrev n_Walk_script : List Str := ["self", "many", "steps"]
theorem sc_Walk_script : FnScope n_Walk_script ["self", "many"] (defScope s_Walk_script) := ⟨rfl, rfl, rfl, by decide +kernel, rfl, by decide +kernel, by decide +kernel⟩
section
variable {P : Program} {w : World} {K : PySem.W.Frag} {mg : Str → Option Value} {base : Heap} {f : Addr} {fd : FuncData}
theorem ok_wscript {C D : Addr} (F : Fun K "script" "Walk.script" s_Walk_script f fd) (N : Nm mg) (T : WkT K C) (c_is_integer : Cal CX0 P w K mg base 1 "is_integer" (spIsInt K)) (c_all_plain : Cal CX0 P w K mg base 1 "all_plain" (spAllPlain K)) (k_Script : Mak CX0 P w K mg base 5 "Script" D (spInit K D)) (g_MOST_STEPS : Gc mg "MOST_STEPS" (.int 5)) : FnOk P w K mg base CX0 7 f fd ["self", "many"] (spWScript K C D) := by
  have m_len := N.len
  have m_tuple := N.tuple
  refine F.ok sc_Walk_script (fun vs H Q E h => ?_) (fun cdv A outer s H vs Q E hr h => ?_)
  · obtain ⟨_, _, _, _, _, _, rfl, _⟩ := h
    rfl
  obtain ⟨a, ps, s, log, gone, m, rfl, wk, hz, hm, hc, k⟩ := h
  refine ⟨_, (pss_cons (ps_if (pt_not (pt_val (pe_c c_is_integer hr (by first | decide | omega) (by rfl) (pa_cons (pv 1) (pa_cons pe_int (pa_cons (pe_callB (w_lenK (K := K)) (by rfl) m_len (by decide +kernel) (pa_cons (pe_fldK (K := K) (pv 0) rfl) pa_nil)) pa_nil)))))) (pss_one ps_never) pss_nil)
      (pss_cons (ps_set (i := 2) sc_Walk_script.nd rfl (by first | exact Or.inl rfl | exact Or.inr rfl) (pe_callTy (w_tupleK (K := K)) (by rfl) m_tuple (by decide +kernel) (pa_cons (pe_slice (sl_listK (K := K)) (pe_fldK (K := K) (pv 0) rfl) (po_some (pe_op op_sub (pe_callB (w_lenK (K := K)) (by rfl) m_len (by decide +kernel) (pa_cons (pe_fldK (K := K) (pv 0) rfl) pa_nil)) (pv 1))) po_none) pa_nil)))
      (pss_cons (ps_if (pt_cmpR op_gt (pe_callB (w_lenK (K := K)) (by rfl) m_len (by decide +kernel) (pa_cons (pe_c c_all_plain hr (by first | decide | omega) (by rfl) (pa_cons (pv 2) pa_nil)) pa_nil)) (pe_g (by rfl) g_MOST_STEPS) (nomark _)) (pss_one ps_never) pss_nil)
      (pss_one (ps_ret (pe_mk k_Script hr (by first | decide | omega) (by rfl) (pa_cons (pe_callB (w_lenK (K := K)) (by rfl) m_len (by decide +kernel) (pa_cons (pe_fldK (K := K) (pv 0) rfl) pa_nil)) (pa_cons (pv 2) pa_nil)))))))), ?_⟩
  try dsimp only [nox_K]
  obtain ⟨dx, fs, pr, pd, pu, b, rs, ds, us, rfl, e, z, nm, l1, l2, l3, l4, sb, e1, e2, e3, t1, t2, t3, n1, n2, n3⟩ := wk.at_
  have hdl : ds.length = log.length := by
    have := t2.length
    rwa [List.length_map] at this
  walk_at "gs"
  refine g_xFld e T.cl T.nS l3 ?_
  walk_at "gs"
  intro H1 k1
  have hi : intIn 0 (ds.length : Int) (.int (m : Int)) = true := by
    simp only [intIn, Bool.and_eq_true, decide_eq_true_eq]
    omega
  rw [hi]
  walk_at "gs"
  have ek : H1 a = some (.ins C dx fs) := k1.at_ e List.not_mem_nil
  have e2k : H1 pd = some (.lst ds) := k1.at_ e2 List.not_mem_nil
  refine g_xFld ek T.cl T.nS l3 ?_
  walk_at "gs"
  refine g_xFld ek T.cl T.nS l3 ?_
  walk_at "gs"
  intro ps H2 np k2 x2
  have hcut : cutV ds (some ((ds.length : Int) - (m : Int))) none = ds.drop (log.length - m) := by
    rw [← cutV_drop]
    congr 2
    omega
  rw [hcut] at x2
  have td : TdA K H2 (ds.drop (log.length - m)) ((log.drop (log.length - m)).map Stp.dat) := by
    rw [List.map_drop]
    exact (k2.tdA (k1.tdA t2)).drop _
  walk_at "gs"
  intro pt H3 npt k3 x3
  walk_at "gs"
  refine ap_allPlain (SqT.of x3) (k3.tdA td) (by omega) fun q ws H4 nq k4 e4 t4 => ?_
  walk_at "gs"
  have hw := t4.length
  rw [List.length_map, flat_len] at hw
  refine g_both (fun c => absurd c (by omega)) (fun c => ?_)
  walk_at "gs"
  have e5 : H4 a = some (.ins C dx fs) := by walk_at "h"
  refine g_xFld e5 T.cl T.nW l1 ?_
  walk_at "gs"
  rw [vI_length]
  refine ap_script (n := s.length) (l := log.drop (log.length - m)) (.tup (SqT.of (k4.at_ x3 List.not_mem_nil)) (k4.tdA (k3.tdA td))) (wk.ok.drop _) hc wk.n1 wk.n3 fun mo H5 nmo k5 so => ?_
  refine k mo H5 ?_ (by walk_at "k") so
  exact Th.none (k1.th.trans (k2.th.trans (k3.th.trans k4.th))) nmo
end
abbrev s_Walk_init : Stmt := inClass (topS 59) 0
abbrev n_Walk_init : List Str := ["self", "sizes", "wheels"]
theorem sc_Walk_init : FnScope n_Walk_init ["self", "sizes"] (defScope s_Walk_init) := ⟨rfl, rfl, rfl, by decide +kernel, rfl, by decide +kernel, by decide +kernel⟩
abbrev s_Script_eq : Stmt := inClass (topS 22) 5
abbrev n_Script_eq : List Str := ["self", "other"]
theorem sc_Script_eq : FnScope n_Script_eq ["self", "other"] (defScope s_Script_eq) := ⟨rfl, rfl, rfl, by decide +kernel, rfl, by decide +kernel, by decide +kernel⟩
section
variable {P : Program} {w : World} {K : PySem.W.Frag} {mg : Str → Option Value} {base : Heap} {f : Addr} {fd : FuncData}
theorem ok_seq {C : Addr} (F : Fun K "__eq__" "Script.__eq__" s_Script_eq f fd) (N : Nm mg) (T : ScT K C) (Is : IsT K C) (v_Script : Gc mg "Script" (.ref C)) : FnOk P w K mg base CX0 1 f fd ["self", "other"] (spSEq K C) := by
  have m_isinstance := N.isinstance
  refine F.ok sc_Script_eq (fun vs H Q E h => ?_) (fun cdv A outer s H vs Q E hr h => ?_)
  · obtain ⟨_, _, _, _, _, _, rfl, _⟩ := h
    rfl
  obtain ⟨a, b, n, n', l, l', rfl, sa, sb, k⟩ := h
  refine ⟨_, (pss_one (ps_ret (pe_and (pe_callB (w_isiK (K := K)) (by rfl) m_isinstance (by decide +kernel) (pa_cons (pv 1) (pa_cons (pe_g (by rfl) v_Script) pa_nil))) (pe_and (pe_cmpR op_eq (pe_fldK (K := K) (pv 0) rfl) (pe_fldK (K := K) (pv 1) rfl) (nomark _)) (pe_one (pe_cmpR (op_eqDK (K := K) hr) (pe_fldK (K := K) (pv 0) rfl) (pe_fldK (K := K) (pv 1) rfl) (nomark _))))))), ?_⟩
  try dsimp only [nox_K]
  walk_at "gs"
  obtain ⟨dx, v, e, t⟩ := sb.at_
  refine g_isiIns e T.cl Is ?_
  walk_at "gs"
  refine g_both (fun c => ?_) (fun c => ?_)
  · have c' : n = n' := by omega
    walk_at "gs"
    intro p1 x1 s1 t1
    walk_at "gs"
    intro p2 x2 s2 t2
    walk_at "gs"
    refine g_rEqDp (d := dSteps l) (e := dSteps l') (Td.tup s1 t1).dp (Td.tup s2 t2).dp ((lay_steps l).sh (by decide)) ((lay_steps l').sh (by decide)) ?_
    have := k H (Kp.refl _)
    rw [decide_eq_true c', Bool.true_and] at this
    exact this
  · have c' : ¬ n = n' := fun z => c (by rw [z])
    have := k H (Kp.refl _)
    rw [decide_eq_false c', Bool.false_and] at this
    exact this
theorem ok_winit {C : Addr} (F : Fun K "__init__" "Walk.__init__" s_Walk_init f fd) (N : Nm mg) (T : WkT K C) (c_are_sizes : Cal CX0 P w K mg base 2 "are_sizes" (spAreSizes K)) (c_first_of : Cal CX0 P w K mg base 1 "first_of" (spFirst K)) (g_MOST_WHEELS : Gc mg "MOST_WHEELS" (.int 3)) : FnOk P w K mg base CX0 3 f fd ["self", "sizes"] (spWInit K C) := by
  have m_any := N.any
  have m_range := N.range
  refine F.ok sc_Walk_init (fun vs H Q E h => ?_) (fun cdv A outer s H vs Q E hr h => ?_)
  · obtain ⟨_, _, _, _, rfl, _⟩ := h
    rfl
  obtain ⟨p, dx, b, s, rfl, hp, hs, so, h1, h3, k⟩ := h
  refine ⟨_, (pss_cons (ps_if (pt_not (pt_val (pe_callB (cr_anyK (K := K) (by rfl)) (by rfl) m_any (by decide +kernel) (pa_cons (pe_lc (own := [("wheels", 2)]) (tt := tYes) (by rfl) sc_Walk_init.nd (pi_range2 (by rfl) m_range (pa_cons pe_int (pa_cons (pe_op op_add (pe_g (by rfl) g_MOST_WHEELS) pe_int) pa_nil))) (blkOk_by (own := [("wheels", 2)]) (N := n_Walk_init) (sc := defScope s_Walk_init) (by decide +kernel)) (fun _ _ _ _ _ => (pg_name (i := 2) sc_Walk_init.nd rfl (by first | exact Or.inl rfl | exact Or.inr rfl))) (fun _ _ _ _ _ => pts_nil) (fun _ _ _ _ _ => (pe_c c_are_sizes hr (by first | decide | omega) (by rfl) (pa_cons (pv 1) (pa_cons (pv 2) pa_nil))))) pa_nil)))) (pss_one ps_never) pss_nil)
      (pss_cons (ps_fld (pv 0) (pv 1) rfl)
      (pss_cons (ps_fld (pv 0) (pe_lst (pa_cons (pe_c c_first_of hr (by first | decide | omega) (by rfl) (pa_cons (pv 1) pa_nil)) pa_nil)) rfl)
      (pss_cons (ps_fld (pv 0) (pe_lst pa_nil) rfl)
      (pss_one (ps_fld (pv 0) (pe_lst pa_nil) rfl)))))), ?_⟩
  try dsimp only [nox_K]
  walk_at "gs"
  refine g_xRng2 (by omega) ?_
  refine g_compR (fun D j acc H' => Kp [] H H' ∧ acc = ((List.range j).map fun e => V.bl (sizesD (1 + e) (dInts s)))) (fun D H1 hD k1 => ⟨k1, rfl⟩) (fun D j acc H1 nD hj eD ⟨k1, ha⟩ => ?_) (fun D acc H1 nD eD ⟨k1, ha⟩ => ?_)
  · walk_at "gs"
    rw [show (1 : Int) + (j : Int) = ((1 + j : Nat) : Int) by omega]
    refine ap_areSizes (d := dInts s) (Td.vI (k1.sqT hs)).dp (fun ds e => by cases e; rw [List.length_map]; omega) fun H2 k2 => ?_
    subst ha
    refine g_xEl (by walk_at "h") (by simp; omega) fun H3 k3 e3 => ⟨Kp.step1 (k1.trans k2) k3 (.inr nD), ?_⟩
    rw [List.range_succ, List.map_append]
    rfl
  · walk_at "gs"
    have hj : ((3 : Int) + 1 - 1).toNat = 3 := by decide
    rw [hj] at ha
    refine g_any (bs := [sizesD 1 (dInts s), sizesD 2 (dInts s), sizesD 3 (dInts s)]) (SqL.of (by rw [eD, ha]; rfl)) ?_
    have hany : [sizesD 1 (dInts s), sizesD 2 (dInts s), sizesD 3 (dInts s)].any id = true := by
      have := sizesD_ok so
      simp only [List.any_cons, List.any_nil, id, Bool.or_eq_true]
      obtain e | e | e : s.length = 1 ∨ s.length = 2 ∨ s.length = 3 := by omega
      · rw [e] at this; exact .inl this
      · rw [e] at this; exact .inr (.inl this)
      · rw [e] at this; exact .inr (.inr (.inl this))
    rw [hany]
    walk_at "gs"
    refine g_xSF (k1.at_ hp List.not_mem_nil) T.cl T.nW (by decide) fun H2 k2 e2 => ?_
    walk_at "gs"
    refine ap_first (k2.sqT (k1.sqT hs)) h1 (by omega) fun z H3 k3 hz => ?_
    walk_at "gs"
    intro pr H4 npr k4 e4
    walk_at "gs"
    have z1 := length_putF "wide" (V.ref b) []
    have z2 := length_putF "rows" (V.ref pr) (putF "wide" (V.ref b) [])
    simp only [List.length_nil] at z1
    refine g_xSF (k4.at_ (k3.at_ e2 List.not_mem_nil) List.not_mem_nil) T.cl T.nR (by omega) fun H5 k5 e5 => ?_
    walk_at "gs"
    intro pd H6 npd k6 e6
    walk_at "gs"
    refine g_xSF (k6.at_ e5 List.not_mem_nil) T.cl T.nS (by omega) fun H7 k7 e7 => ?_
    have z3 := length_putF "steps_done" (V.ref pd) (putF "rows" (V.ref pr) (putF "wide" (V.ref b) []))
    walk_at "gs"
    intro pu H8 npu k8 e8
    walk_at "gs"
    refine g_xSF (k8.at_ e7 List.not_mem_nil) T.cl T.nU (by omega) fun H9 k9 e9 => ?_
    walk_at "gs"
    have z4 := length_putF "undone" (V.ref pu) (putF "steps_done" (V.ref pd) (putF "rows" (V.ref pr) (putF "wide" (V.ref b) [])))
    have npr2 : p ≠ pr := ne_of_none (by walk_at "h") npr
    have npd2 : p ≠ pd := ne_of_none e5 npd
    have npu2 : p ≠ pu := ne_of_none e7 npu
    have nprd : pr ≠ pd := ne_of_none (k5.at_ e4 (by simpa using Ne.symm npr2)) npd
    have r7 : H7 pr = some (.lst [V.ref z]) := k7.at_ (k6.at_ (k5.at_ e4 (by simpa using Ne.symm npr2)) List.not_mem_nil) (by simpa using Ne.symm npr2)
    have d7 : H7 pd = some (.lst []) := k7.at_ e6 (by simpa using Ne.symm npd2)
    have npru : pr ≠ pu := ne_of_none r7 npu
    have npdu : pd ≠ pu := ne_of_none d7 npu
    have kk : Kp [p] H H9 := Kp.step1 (Kp.step0 (Kp.step1 (Kp.step0 (Kp.step1 (Kp.step0 (Kp.step0 (Kp.step1 (Kp.step0 (Kp.refl _) k1) k2 (.inl (by simp))) k3) k4) k5 (.inl (by simp))) k6) k7 (.inl (by simp))) k8) k9 (.inl (by simp))
    have th1 : Th H H3 := k1.th.trans (k2.th.trans k3.th)
    have th2 : Th H H5 := th1.trans (k4.th.trans k5.th)
    have th3 : Th H H7 := th2.trans (k6.th.trans k7.th)
    have q1 : ∀ f g : Str, ¬ f = g → ∀ v fs, (putF g v fs).lookup f = fs.lookup f := fun f g hfg v fs => by rw [lookup_putF, if_neg hfg]
    refine k [p, pr, pd, pu] H9 kk (fun x hx => ?_) ⟨⟨dx, _, pr, pd, pu, b, _, _, _, rfl, e9, by omega, ⟨?_, ?_, ?_, ?_, ?_⟩, ?_, ?_, ?_, ?_, kk.sqT hs, k9.at_ (k8.at_ r7 List.not_mem_nil) (by simpa using Ne.symm npr2), k9.at_ (k8.at_ d7 List.not_mem_nil) (by simpa using Ne.symm npd2), k9.at_ e8 (by simpa using Ne.symm npu2), ?_, .nil, .nil, nprd, npru, npdu⟩, so, (fun _ z => nomatch z), (fun _ z => nomatch z), h1, h3⟩
    · simp only [List.mem_cons, List.not_mem_nil, or_false] at hx
      rcases hx with rfl | rfl | rfl | rfl
      · exact .inl rfl
      · exact .inr (th1.none npr)
      · exact .inr (th2.none npd)
      · exact .inr (th3.none npu)
    · simp only [q1 _ _ (show ¬ ("go" : Str) = "undone" by decide +kernel), q1 _ _ (show ¬ ("go" : Str) = "steps_done" by decide +kernel), q1 _ _ (show ¬ ("go" : Str) = "rows" by decide +kernel), q1 _ _ (show ¬ ("go" : Str) = "wide" by decide +kernel)]
      rfl
    · simp only [q1 _ _ (show ¬ ("do" : Str) = "undone" by decide +kernel), q1 _ _ (show ¬ ("do" : Str) = "steps_done" by decide +kernel), q1 _ _ (show ¬ ("do" : Str) = "rows" by decide +kernel), q1 _ _ (show ¬ ("do" : Str) = "wide" by decide +kernel)]
      rfl
    · simp only [q1 _ _ (show ¬ ("undo" : Str) = "undone" by decide +kernel), q1 _ _ (show ¬ ("undo" : Str) = "steps_done" by decide +kernel), q1 _ _ (show ¬ ("undo" : Str) = "rows" by decide +kernel), q1 _ _ (show ¬ ("undo" : Str) = "wide" by decide +kernel)]
      rfl
    · simp only [q1 _ _ (show ¬ ("redo" : Str) = "undone" by decide +kernel), q1 _ _ (show ¬ ("redo" : Str) = "steps_done" by decide +kernel), q1 _ _ (show ¬ ("redo" : Str) = "rows" by decide +kernel), q1 _ _ (show ¬ ("redo" : Str) = "wide" by decide +kernel)]
      rfl
    · simp only [q1 _ _ (show ¬ ("script" : Str) = "undone" by decide +kernel), q1 _ _ (show ¬ ("script" : Str) = "steps_done" by decide +kernel), q1 _ _ (show ¬ ("script" : Str) = "rows" by decide +kernel), q1 _ _ (show ¬ ("script" : Str) = "wide" by decide +kernel)]
      rfl
    · rw [q1 _ _ (show ¬ ("wide" : Str) = "undone" by decide +kernel), q1 _ _ (show ¬ ("wide" : Str) = "steps_done" by decide +kernel), q1 _ _ (show ¬ ("wide" : Str) = "rows" by decide +kernel), lookup_putF, if_pos rfl]
    · rw [q1 _ _ (show ¬ ("rows" : Str) = "undone" by decide +kernel), q1 _ _ (show ¬ ("rows" : Str) = "steps_done" by decide +kernel), lookup_putF, if_pos rfl]
    · rw [q1 _ _ (show ¬ ("steps_done" : Str) = "undone" by decide +kernel), lookup_putF, if_pos rfl]
    · rw [lookup_putF, if_pos rfl]
    · have hz9 : Td K H9 (.ref z) (dInts (zeros s.length)) := Td.vI (k9.sqT (k8.sqT (k7.sqT (k6.sqT (k5.sqT (k4.sqT hz))))))
      exact .cons hz9 .nil
end
abbrev s_rows_from : Stmt := topS 36
abbrev n_rows_from : List Str := ["script", "sizes", "showing", "most", "found", "seen"]
theorem sc_rows_from : FnScope n_rows_from ["script", "sizes", "showing", "most"] (defScope s_rows_from) := ⟨rfl, rfl, rfl, by decide +kernel, rfl, by decide +kernel, by decide +kernel⟩
abbrev s_rounds : Stmt := topS 37
abbrev n_rounds : List Str := ["script", "sizes", "many", "size", "rows", "again"]
theorem sc_rounds : FnScope n_rounds ["script", "sizes"] (defScope s_rounds) := ⟨rfl, rfl, rfl, by decide +kernel, rfl, by decide +kernel, by decide +kernel⟩
section
variable {P : Program} {w : World} {K : PySem.W.Frag} {mg : Str → Option Value} {base : Heap} {f : Addr} {fd : FuncData}
theorem ok_rows_from {C : Addr} (F : Fun K "rows_from" "rows_from" s_rows_from f fd) (N : Nm mg) (T : ScT K C) (c_ran : Cal CX0 P w K mg base 5 "ran" (spRan K 2)) : FnOk P w K mg base CX0 6 f fd ["script", "sizes", "showing", "most"] (spRowsFrom K C) := by
  have m_len := N.len
  refine F.ok sc_rows_from (fun vs H Q E h => ?_) (fun cdv A outer s H vs Q E hr h => ?_)
  · obtain ⟨_, _, _, _, _, _, _, _, rfl, _⟩ := h
    rfl
  obtain ⟨a, b, z, n, l, s, z0, most, rfl, sc, sb, sn, s2, ez, oz, hb, k⟩ := h
  have n1 := sc.n1
  have n3 := sc.n3
  have lo : StepsOk s.length l := by rw [sn]; exact sc.ok
  have zl := oz.len
  have few : ∀ {i : Nat}, Dist s l z0 i → (i ≤ most + 1) → i ≤ 10001 := fun {i} d h => by
    have := dist_le s2 lo oz d
    omega
  refine ⟨_, (pss_cons (ps_par (i := 4) (j := 5) (by rfl) sc_rows_from.nd rfl rfl (by decide) rfl rfl (pa_cons (pe_lst pa_nil) (pa_cons pe_dnewT pa_nil)) (by rfl))
      (pss_cons (ps_while PassesOwn.never (PW.pt (pw_and (pt_cmp (pc_dnotin (hu_of hr) (pv 2) (pv 5))) (pw_and1 (pt_cmpR op_le (pe_callB (w_lenK (K := K)) (by rfl) m_len (by decide +kernel) (pa_cons (pv 4) pa_nil)) (pv 3) (nomark _))))) (pss_cons (ps_dput (hu_of hr) (pv 5) (pv 2) (pe_callB (w_lenK (K := K)) (by rfl) m_len (by decide +kernel) (pa_cons (pv 4) pa_nil)) rfl)
      (pss_cons (ps_expr (pe_bm PySem.F.plainAttrs_list PySem.F.slot_list_append PySem.F.type_list_append mt_append (pv 4) (pa_cons (pv 2) pa_nil)))
      (pss_one (ps_set (i := 2) sc_rows_from.nd rfl (by first | exact Or.inl rfl | exact Or.inr rfl) (pe_c c_ran hr (by first | decide | omega) (by rfl) (pa_cons (pv 2) (pa_cons (pv 1) (pa_cons (pe_fldK (K := K) (pv 0) rfl) pa_nil)))))))))
      (pss_one (ps_ret (pe_tup (pa_cons (pv 4) (pa_cons (pe_dget2 (hu_of hr) (pv 5) (pv 2) pe_non ⟨rfl, rfl, rfl, rfl⟩) pa_nil))))))), ?_⟩
  try dsimp only [nox_K]
  walk_at "gs"
  intro pf H1 npf k1 e1
  walk_at "gs"
  intro ps H2 nps k2 e2
  walk_at "gs"
  have npz : pf ≠ ps := ne_of_none e1 nps
  refine g_while (fun m σ' H' => ∃ (i : Nat) (zi : Addr) (ws : List V), m = prodZ s + 1 - i ∧ i ≤ most + 1 ∧ Dist s l z0 i ∧ σ' = [some (.ref a), some (.ref b), some (.ref zi), some (.int most), some (.ref pf), some (.ref ps)] ∧ Kp [] H H' ∧ H' zi = some (.tup (vI (itZ s l i z0))) ∧ H' pf = some (.lst ws) ∧ TrA H' ws (orbL s l z0 i) ∧ H' ps = some (.dT (seenO s l z0 i)))
    ⟨_, 0, z, [], rfl, by omega, fun i j _ h => absurd h (Nat.not_lt_zero j), rfl, k1.trans k2, by walk_at "h", by walk_at "h", .nil, e2⟩ ?_
  rintro m σ' H3 ⟨i, zi, ws, rfl, him, hd, rfl, k3, ezi, ew, tw, es⟩
  have lw := tw.length
  rw [orbL_len] at lw
  have hi := few hd him
  have nfH : H pf = none := npf
  have nsH : H ps = none := k1.th.none nps
  have fin : ∀ (H4 : Hp) (v : V) (p : Addr), Kp [] H3 H4 → H4 p = some (.tup [.ref pf, v]) → ((∃ j, j < i ∧ itZ s l i z0 = itZ s l j z0 ∧ v = .int (j : Nat)) ∨ i = most + 1) → Q (.ref p) H4 := fun H4 v p k4 ep hv =>
    k p pf ws i v H4 (k3.trans k4) ep (k4.at_ ew List.not_mem_nil) (k4.trA tw) hd hi hv
  walk_at "gs"
  by_cases hin : itZ s l i z0 ∈ orbL s l z0 i
  · obtain ⟨j, hj, ej⟩ := mem_orbL.mp hin
    have hv := seenO_some hd hj
    rw [ej] at hv
    rw [hv]
    walk_at "gs"
    rw [hv]
    walk_at "gs"
    intro p H4 np k4 e4
    exact fin H4 _ p k4 e4 (.inl ⟨j, hj, ej.symm, rfl⟩)
  · rw [seenO_none hin]
    walk_at "gs"
    refine g_whB (fun c => ?_) (fun c => ?_)
    · have lseen : (seenO s l z0 i).length ≤ 1000000 := by
        unfold seenO
        rw [List.length_map, List.length_range]
        omega
      walk_at "gs"
      intro H4 k4 e4
      walk_at "gs"
      rw [lw, seenO_put hin] at e4
      have ew4 : H4 pf = some (.lst ws) := k4.at_ ew (notin1 npz)
      refine g_append (xs := ws) ew4 (by omega) fun H5 k5 e5 => ?_
      walk_at "gs"
      have sc5 : Scr K C H5 a n l := by
        refine Kp.scr (M := [ps, pf]) (Kp.step1 (Kp.step1 (k3.up fun _ z => absurd z List.not_mem_nil) k4 (.inl (by simp))) k5 (.inl (by simp))) sc fun hm => ?_
        simp only [List.mem_cons, List.not_mem_nil, or_false] at hm
        obtain ⟨dx, v, e, t⟩ := sc.at_
        rcases hm with rfl | rfl
        · rw [nsH] at e; cases e
        · rw [nfH] at e; cases e
      intro p xs sp tp
      walk_at "gs"
      have ezi5 : H5 zi = some (.tup (vI (itZ s l i z0))) := k5.tp (k4.tp ezi)
      refine ap_ranB (τ := true) (s := s) (l := l) (.at_ ezi5) (k5.sqT (k4.sqT (k3.sqT sb))) (by rw [itZ_len]; exact zl) (by omega) sp tp lo (fun st _ => by cases st <;> simp [Stp.dep]) (by decide) fun zn H6 k6 e6 => ?_
      walk_at "gs"
      refine ⟨prodZ s + 1 - (i + 1), ?_, i + 1, zn, ws ++ [.ref zi], rfl, by omega, hd.next hin, rfl, ?_, e6.tr, k6.at_ e5 List.not_mem_nil, ?_, k6.at_ (k5.at_ e4 (notin1 (Ne.symm npz))) List.not_mem_nil⟩
      · have := dist_le s2 lo oz (hd.next hin)
        omega
      · exact Kp.step0 (Kp.step1 (Kp.step1 k3 k4 (.inr nsH)) k5 (.inr nfH)) k6
      · rw [orbL_succ]
        exact (k6.trA (k5.trA (k4.trA tw))).app (.cons (k6.tp ezi5) .nil)
    · walk_at "gs"
      rw [seenO_none hin]
      walk_at "gs"
      intro p H4 np k4 e4
      exact fin H4 _ p k4 e4 (.inr (by omega))
theorem ok_rounds {C : Addr} (F : Fun K "rounds" "rounds" s_rounds f fd) (N : Nm mg) (T : ScT K C) (c_check_sizes : Cal CX0 P w K mg base 3 "check_sizes" (spCheckSizes K)) (c_first_of : Cal CX0 P w K mg base 1 "first_of" (spFirst K)) (c_rows_from : Cal CX0 P w K mg base 6 "rows_from" (spRowsFrom K C)) : FnOk P w K mg base CX0 7 f fd ["script", "sizes"] (spRounds K C) := by
  have m_len := N.len
  refine F.ok sc_rounds (fun vs H Q E h => ?_) (fun cdv A outer s H vs Q E hr h => ?_)
  · obtain ⟨_, _, _, _, _, rfl, _⟩ := h
    rfl
  obtain ⟨a, b, n, l, s, rfl, sc, sb, sn, so, hp, k⟩ := h
  have n1 := sc.n1
  have n3 := sc.n3
  refine ⟨_, (pss_cons (ps_expr (pe_c c_check_sizes hr (by first | decide | omega) (by rfl) (pa_cons (pv 1) (pa_cons (pe_fldK (K := K) (pv 0) rfl) pa_nil))))
      (pss_cons (ps_set (i := 2) sc_rounds.nd rfl (by first | exact Or.inl rfl | exact Or.inr rfl) pe_int)
      (pss_cons (ps_for PassesOwn.never rfl (pi_tupK (K := K) (pv 1)) (pg_name (i := 3) sc_rounds.nd rfl (by first | exact Or.inl rfl | exact Or.inr rfl)) (pss_one (ps_set (i := 2) sc_rounds.nd rfl (by first | exact Or.inl rfl | exact Or.inr rfl) (pe_op op_mul (pv 2) (pv 3)))))
      (pss_cons (ps_asg (pe_c c_rows_from hr (by first | decide | omega) (by rfl) (pa_cons (pv 0) (pa_cons (pv 1) (pa_cons (pe_c c_first_of hr (by first | decide | omega) (by rfl) (pa_cons (pv 1) pa_nil)) (pa_cons (pv 2) pa_nil))))) (pg_tupK (K := K) (n := 2) (by rfl) (pgs_cons (pg_name (i := 4) sc_rounds.nd rfl (by first | exact Or.inl rfl | exact Or.inr rfl)) (pgs_cons (pg_name (i := 5) sc_rounds.nd rfl (by first | exact Or.inl rfl | exact Or.inr rfl)) pgs_nil))))
      (pss_one (ps_ret (pe_tup (pa_cons (pv 5) (pa_cons (pe_op op_sub (pe_callB (w_lenK (K := K)) (by rfl) m_len (by decide +kernel) (pa_cons (pv 4) pa_nil)) (pv 5)) pa_nil))))))))), ?_⟩
  try dsimp only [nox_K]
  walk_at "gs"
  refine ap_checkSizes sb sn so (by omega) fun H1 k1 => ?_
  walk_at "gs"
  have sb1 := k1.sqT sb
  refine g_loopT (xs := vI s) (fun i σ' H' => H' = H1 ∧ ∃ y3 y4 y5, σ' = [some (.ref a), some (.ref b), some (.int ((s.take i).foldl (fun a x => a * x) 1)), y3, y4, y5]) ⟨rfl, _, _, _, rfl⟩ (fun i σ' H' _ ⟨e, _⟩ => e ▸ sb1) ?_ ?_
  · rintro i x σ' H' hx ⟨rfl, y3, y4, y5, rfl⟩
    obtain ⟨xi, hxi, rfl⟩ : ∃ xi, s[i]? = some xi ∧ x = .int xi := by
      unfold vI at hx
      rw [List.getElem?_map] at hx
      obtain ⟨q, h1, h2⟩ := Option.map_eq_some_iff.mp hx
      exact ⟨q, h1, h2.symm⟩
    have hle := le_prodZ so.two (List.mem_of_getElem? hxi)
    have h2 := so.two _ (List.mem_of_getElem? hxi)
    walk_at "gs"
    refine g_rI (show CMul _ _ from .inr ⟨by omega, by omega⟩) ?_
    walk_at "gs"
    refine ⟨rfl, some (.int xi), y4, y5, ?_⟩
    rw [List.take_add_one, hxi, List.foldl_append]
    rfl
  · rintro σ' H' ⟨rfl, y3, y4, y5, rfl⟩
    rw [vI_length, List.take_length, prod_fold 1 so.two, Int.one_mul]
    walk_at "gs"
    refine ap_firstB sb1 (by omega) (by omega) fun z H2 k2 ez => ?_
    walk_at "gs"
    have kk : Kp [] H H2 := k1.trans k2
    refine ⟨a, b, z, n, l, s, zeros s.length, prodZ s, rfl, kk.scr sc List.not_mem_nil, kk.sqT sb, sn, so.two, ez, OkZ.zeros so.two, .inl hp, fun p q ws m v H3 k3 ep eq tw hd hm hv => ?_⟩
    have hle := dist_le so.two (by rw [sn]; exact sc.ok) (OkZ.zeros so.two) hd
    obtain ⟨j, hj, ej, rfl⟩ : ∃ j, j < m ∧ itZ s l m (zeros s.length) = itZ s l j (zeros s.length) ∧ v = .int (j : Nat) := by
      rcases hv with h | h
      · exact h
      · omega
    have lw := tw.length
    rw [orbL_len] at lw
    walk_at "gs"
    intro pr H4 npr k4 e4
    rw [lw] at e4
    exact k pr m j H4 (kk.trans (k3.trans k4)) ⟨hd, hj, ej⟩ (by omega) e4
end
abbrev s_reach_of : Stmt := topS 21
abbrev n_reach_of : List Str := ["steps", "step"]
theorem sc_reach_of : FnScope n_reach_of ["steps"] (defScope s_reach_of) := ⟨rfl, rfl, rfl, by decide +kernel, rfl, by decide +kernel, by decide +kernel⟩
abbrev s_Script_reach : Stmt := inClass (topS 22) 3
abbrev n_Script_reach : List Str := ["self"]
theorem sc_Script_reach : FnScope n_Script_reach ["self"] (defScope s_Script_reach) := ⟨rfl, rfl, rfl, by decide +kernel, rfl, by decide +kernel, by decide +kernel⟩
abbrev s_bound_of : Stmt := topS 40
abbrev n_bound_of : List Str := ["wheels", "reach"]
theorem sc_bound_of : FnScope n_bound_of ["wheels", "reach"] (defScope s_bound_of) := ⟨rfl, rfl, rfl, by decide +kernel, rfl, by decide +kernel, by decide +kernel⟩
abbrev s_sizes_with : Stmt := topS 41
abbrev n_sizes_with : List Str := ["wheels", "total", "bound", "found", "size", "rest"]
theorem sc_sizes_with : FnScope n_sizes_with ["wheels", "total", "bound"] (defScope s_sizes_with) := ⟨rfl, rfl, rfl, by decide +kernel, rfl, by decide +kernel, by decide +kernel⟩
abbrev s_check_wheel : Stmt := topS 43
abbrev n_check_wheel : List Str := ["script", "wheel"]
theorem sc_check_wheel : FnScope n_check_wheel ["script", "wheel"] (defScope s_check_wheel) := ⟨rfl, rfl, rfl, by decide +kernel, rfl, by decide +kernel, by decide +kernel⟩
section
variable {P : Program} {w : World} {K : PySem.W.Frag} {mg : Str → Option Value} {base : Heap} {f : Addr} {fd : FuncData}
theorem ok_reach_of (F : Fun K "reach_of" "reach_of" s_reach_of f fd) (N : Nm mg) (c_all_plain : Cal CX0 P w K mg base 1 "all_plain" (spAllPlain K)) : FnOk P w K mg base CX0 2 f fd ["steps"] (spReachOf K) := by
  have m_sum := N.sum
  have m_abs := N.abs
  refine F.ok sc_reach_of (fun vs H Q E h => ?_) (fun cdv A outer s H vs Q E hr h => ?_)
  · obtain ⟨_, _, _, _, rfl, _⟩ := h
    rfl
  obtain ⟨a, xs, n, l, rfl, st, tt, lo, hc, k⟩ := h
  refine ⟨_, (pss_one (ps_ret (pe_op op_add pe_int (pe_callB (cr_sumK (K := K) (by rfl)) (by rfl) m_sum (by decide +kernel) (pa_cons (pe_lc (own := [("step", 1)]) (by rfl) sc_reach_of.nd (pi_listK (K := K) (pe_c c_all_plain hr (by first | decide | omega) (by rfl) (pa_cons (pv 0) pa_nil))) (blkOk_by (own := [("step", 1)]) (N := n_reach_of) (sc := defScope s_reach_of) (by decide +kernel)) (fun _ _ _ _ _ => (pg_name (i := 1) sc_reach_of.nd rfl (by first | exact Or.inl rfl | exact Or.inr rfl))) (fun _ _ _ _ _ => (pts_one (pt_cmpR op_eq (pe_ix (ix_tupK (K := K)) (pv 1) pe_int (fun _ _ => rfl)) pe_str (nomark _)))) (fun _ _ _ _ _ => (pe_callB w_abs (by rfl) m_abs (by decide +kernel) (pa_cons (pe_ix (ix_tupK (K := K)) (pv 1) pe_int (fun _ _ => rfl)) pa_nil)))) pa_nil))))), ?_⟩
  try dsimp only [nox_K]
  walk_at "gs"
  refine ap_allPlain st tt hc fun p ws H1 np k1 e1 t1 => ?_
  walk_at "gs"
  have lw := t1.length
  rw [List.length_map, flat_len] at lw
  refine g_compL (xs := ws) (fun D i acc H' => Kp [] H1 H' ∧ ∃ ns : List Int, acc = ns.map V.int ∧ ns.length ≤ i ∧ ns.sum = ((((flat l).take i).map topRw).sum : Nat)) (fun D H2 hD k2 => ⟨k2, [], rfl, Nat.le_refl _, rfl⟩) (fun D i acc H' _ ⟨k', _⟩ => SqL.of (k'.at_ e1 List.not_mem_nil)) (fun D i x acc H2 nD hx eD ⟨k2, ns, ha, hl, hs⟩ => ?_) (fun D acc H2 nD eD ⟨k2, ns, ha, hl, hs⟩ => ?_)
  · subst ha
    have hi : i < (flat l).length := by
      have := (List.getElem?_eq_some_iff.mp hx).1
      rw [flat_len]
      omega
    obtain ⟨x', hx', tx⟩ := (k2.tdA t1).get (i := i) (d := (flat l)[i].dat) (by simp [hi])
    rw [hx] at hx'
    cases hx'
    have ht : (((flat l).take (i + 1)).map topRw).sum = (((flat l).take i).map topRw).sum + topRw (flat l)[i] := by
      rw [take_next (List.getElem?_eq_getElem hi), List.sum_append]
      simp
    have hi2 : i ≤ 1000 := by
      have := flat_len l
      omega
    rw [ht]
    generalize (flat l)[i] = s at tx
    cases s with
    | pl p =>
      cases p with
      | turn wh b kd =>
        obtain ⟨t, rfl, ht'⟩ := td_turn tx
        walk_at "gs"
        refine g_xEl eD (by rw [List.length_map]; omega) fun H3 k3 e3 => ⟨Kp.step1 k2 k3 (.inr nD), ns ++ [if b < 0 then -b else b], by simp, by simp; omega, ?_⟩
        rw [List.sum_append, hs]
        show _ = (((((flat l).take i).map topRw).sum + b.natAbs : Nat) : Int)
        simp only [List.sum_cons, List.sum_nil]
        split <;> omega
      | set wh b =>
        obtain ⟨t, rfl, ht'⟩ := td_set tx
        walk_at "gs"
        exact g_accP eD ⟨k2, ns, rfl, by omega, by rw [hs]; rfl⟩
    | alike a' b' f' g' =>
      obtain ⟨t, pf, pg, fs, gs_, rfl, ht', hf, tf, hg, tg⟩ := td_alike tx
      walk_at "gs"
      exact g_accP eD ⟨k2, ns, rfl, by omega, by rw [hs]; rfl⟩
  · subst ha
    walk_at "gs"
    refine g_sum (ns := ns) (SqL.of eD) ?_
    walk_at "gs"
    have hz : (flat l).take ws.length = flat l := by
      rw [List.take_of_length_le]
      rw [flat_len]
      omega
    rw [hs, hz]
    have e : (1 : Int) + ((((flat l).map topRw).sum : Nat) : Int) = ((reachZ l : Nat) : Int) := by
      rw [topRw_flat]
      unfold reachZ
      omega
    rw [e]
    exact k H2 (k1.trans k2)
theorem ok_sreach {C : Addr} (F : Fun K "reach" "Script.reach" s_Script_reach f fd) (T : ScT K C) (c_reach_of : Cal CX0 P w K mg base 2 "reach_of" (spReachOf K)) : FnOk P w K mg base CX0 3 f fd ["self"] (spReach K C) := by
  refine F.ok sc_Script_reach (fun vs H Q E h => ?_) (fun cdv A outer s H vs Q E hr h => ?_)
  · obtain ⟨_, _, _, rfl, _⟩ := h
    rfl
  obtain ⟨a, n, l, rfl, sc, k⟩ := h
  refine ⟨_, (pss_one (ps_ret (pe_c c_reach_of hr (by first | decide | omega) (by rfl) (pa_cons (pe_fldK (K := K) (pv 0) rfl) pa_nil)))), ?_⟩
  try dsimp only [nox_K]
  walk_at "gs"
  intro p xs sp tp
  walk_at "gs"
  exact ⟨p, xs, n, l, rfl, sp, tp, sc.ok, by have := sc.cn; omega, fun H1 k1 => k H1 k1⟩
theorem ok_bound_of (F : Fun K "bound_of" "bound_of" s_bound_of f fd) : FnOk P w K mg base CX0 1 f fd ["wheels", "reach"] spBoundOf := by
  refine F.ok sc_bound_of (fun vs H Q E h => ?_) (fun cdv A outer s H vs Q E hr h => ?_)
  · obtain ⟨_, _, rfl, _⟩ := h
    rfl
  obtain ⟨n, r, rfl, hn, hr', k⟩ := h
  refine ⟨_, (pss_one (ps_ret (pe_op op_add (pe_op op_add (pe_op op_mul (pe_op op_add (pv 0) pe_int) (pv 1)) (pe_op op_mul pe_int (pv 0))) pe_int))), ?_⟩
  try dsimp only [nox_K]
  walk_at "gs"
  refine g_rI (show CMul _ _ from .inl ⟨by omega, by omega⟩) ?_
  walk_at "gs"
  have e : ((n : Int) + 2) * (r : Int) + 4 * (n : Int) + 1 = ((bndZ n r : Nat) : Int) := by
    unfold bndZ
    norm_cast
  rw [e]
  exact k
theorem ok_sizes_with {k : Nat} (F : Fun K "sizes_with" "sizes_with" s_sizes_with f fd) (N : Nm mg) (c_sizes_with : Cal CX0 P w K mg base k "sizes_with" (spSizesWith K k)) (g_LEAST_SIZE : Gc mg "LEAST_SIZE" (.int 2)) : FnOk P w K mg base CX0 (k + 1) f fd ["wheels", "total", "bound"] (spSizesWith K (k + 1)) := by
  have m_min := N.min
  have m_range := N.range
  refine F.ok sc_sizes_with (fun vs H Q E h => ?_) (fun cdv A outer s H vs Q E hr h => ?_)
  · obtain ⟨_, _, _, rfl, _⟩ := h
    rfl
  obtain ⟨n, b, t, rfl, h1, hk, h3, hb, t1, t2, k⟩ := h
  refine ⟨_, (pss_cons (ps_if (pt_cmpR op_eq (pv 0) pe_int (nomark _)) (pss_one (ps_ret (pe_ifExp (pt_chain op_le op_le (pe_g (by rfl) g_LEAST_SIZE) (pv 1) (pv 2)) (pe_lst (pa_cons (pe_tup (pa_cons (pv 1) pa_nil)) pa_nil)) (pe_lst pa_nil)))) pss_nil)
      (pss_cons (ps_set (i := 3) sc_sizes_with.nd rfl (by first | exact Or.inl rfl | exact Or.inr rfl) (pe_lst pa_nil))
      (pss_cons (ps_for PassesOwn.never rfl (pi_range2 (by rfl) m_range (pa_cons (pe_g (by rfl) g_LEAST_SIZE) (pa_cons (pe_op op_add (pe_callB (w_min2 (by rfl)) (by rfl) m_min (by decide +kernel) (pa_cons (pv 2) (pa_cons (pv 1) pa_nil))) pe_int) pa_nil))) (pg_name (i := 4) sc_sizes_with.nd rfl (by first | exact Or.inl rfl | exact Or.inr rfl)) (pss_one (ps_expr (pe_bm PySem.F.plainAttrs_list PySem.F.slot_list_extend PySem.F.type_list_extend mt_extend (pv 3) (pa_cons (pe_lc (own := [("rest", 5)]) (tt := tYes) (by rfl) sc_sizes_with.nd (pi_listK (K := K) (pe_c c_sizes_with hr (by first | decide | omega) (by rfl) (pa_cons (pe_op op_sub (pv 0) pe_int) (pa_cons (pe_op op_sub (pv 1) (pv 4)) (pa_cons (pv 2) pa_nil))))) (blkOk_by (own := [("rest", 5)]) (N := n_sizes_with) (sc := defScope s_sizes_with) (by decide +kernel)) (fun _ _ _ _ _ => (pg_name (i := 5) sc_sizes_with.nd rfl (by first | exact Or.inl rfl | exact Or.inr rfl))) (fun _ _ _ _ _ => pts_nil) (fun _ _ _ _ _ => (pe_tup (pa_cons (pv 4) (pa_starK (K := K) (pv 5) pa_nil))))) pa_nil)))))
      (pss_one (ps_ret (pv 3)))))), ?_⟩
  try dsimp only [nox_K]
  walk_at "gs"
  obtain ⟨n, rfl⟩ : ∃ m, n = m + 1 := ⟨n - 1, by omega⟩
  refine g_both (fun c => ?_) (fun c => ?_)
  · obtain rfl : n = 0 := by omega
    walk_at "gs"
    refine g_both (fun c1 => ?_) (fun c1 => ?_)
    · walk_at "gs"
      refine g_both (fun c2 => ?_) (fun c2 => ?_)
      · walk_at "gs"
        intro pt H1 npt k1 e1
        walk_at "gs"
        intro pl H2 npl k2 e2
        refine k pl _ H2 (k1.th.none npl) (k1.trans k2) e2 ?_
        unfold szW
        rw [if_pos ⟨c1, c2⟩]
        exact .cons (k2.td (Td.vI (ns := [t]) (SqT.of e1))) .nil
      · walk_at "gs"
        intro pl H2 npl k2 e2
        refine k pl _ H2 npl k2 e2 ?_
        unfold szW
        rw [if_neg fun z => c2 z.2]
        exact .nil
    · walk_at "gs"
      intro pl H2 npl k2 e2
      refine k pl _ H2 npl k2 e2 ?_
      unfold szW
      rw [if_neg fun z => c1 z.1]
      exact .nil
  · obtain ⟨n, rfl⟩ : ∃ m, n = m + 1 := ⟨n - 1, by omega⟩
    walk_at "gs"
    intro pf H1 npf k1 e1
    walk_at "gs"
    obtain ⟨mn, hmn⟩ : ∃ mn : Int, (if t < (b : Int) then t else (b : Int)) = mn := ⟨_, rfl⟩
    have hm1 : mn ≤ 1000 ∧ -1000 ≤ mn := by
      rw [← hmn]
      split <;> omega
    rw [hmn]
    have szu : szW b (n + 1 + 1) t = (List.range (mn - 1).toNat).flatMap fun (j : Nat) => (szW b (n + 1) (t - (2 + (j : Int)))).map fun r => (2 + (j : Int)) :: r := by
      rw [← hmn]
      rfl
    rw [szu] at k
    refine g_xRng2 (by omega) ?_
    refine g_loopR (fun i σ' H' => Kp [] H H' ∧ ∃ ws y4 y5, H' pf = some (.lst ws) ∧ TdA K H' ws (((List.range i).flatMap fun (j : Nat) => (szW b (n + 1) (t - (2 + (j : Int)))).map fun r => (2 + (j : Int)) :: r).map dInts) ∧ σ' = [some (.int (n + 1 + 1 : Nat)), some (.int t), some (.int b), some (.ref pf), y4, y5])
      ⟨k1, [], _, _, e1, .nil, rfl⟩ ?_ ?_
    · rintro i σ' H2 hi ⟨k2, ws, y4, y5, ew, tw, rfl⟩
      have hib : i < b := by
        rw [← hmn] at hi
        split at hi <;> omega
      have npH : H pf = none := npf
      walk_at "gs"
      rw [show ((n + 1 + 1 : Nat) : Int) - 1 = ((n + 1 : Nat) : Int) by omega]
      refine ⟨n + 1, b, t - (2 + (i : Int)), rfl, by omega, by omega, by omega, hb, by omega, by omega, fun p2 ws2 H3 np2 k3 e3 t3 => ?_⟩
      walk_at "gs"
      have l2 := t3.length
      rw [List.length_map] at l2
      refine g_compL (xs := ws2) (fun D j acc H' => Kp [] H3 H' ∧ TdA K H' acc ((((szW b (n + 1) (t - (2 + (i : Int)))).take j).map fun r => (2 + (i : Int)) :: r).map dInts)) (fun D H4 hD k4 => ⟨k4, .nil⟩) (fun D j acc H' _ ⟨k', _⟩ => SqL.of (k'.at_ e3 List.not_mem_nil)) (fun D j x acc H4 nD hx eD ⟨k4, ta⟩ => ?_) (fun D acc H4 nD eD ⟨k4, ta⟩ => ?_)
      · have hj : j < (szW b (n + 1) (t - (2 + (i : Int)))).length := by
          have := (List.getElem?_eq_some_iff.mp hx).1
          omega
        obtain ⟨r, hr'⟩ : ∃ r, (szW b (n + 1) (t - (2 + (i : Int))))[j]? = some r := ⟨_, List.getElem?_eq_getElem hj⟩
        obtain ⟨x', hx', tx⟩ := (k4.tdA t3).get (i := j) (d := dInts r) (by rw [List.getElem?_map, hr']; rfl)
        rw [hx] at hx'
        cases hx'
        obtain ⟨pr, xr, rfl, sr, tr⟩ := tx.inv
        obtain rfl := tr.vIInv
        have rl := (szW_mem.mp (List.mem_of_getElem? hr')).1.1
        have al := ta.length
        rw [List.length_map, List.length_map, List.length_take] at al
        have sml := szW_small (b := b) (n := n + 1) (t := t - (2 + (i : Int))) hb (by omega)
        walk_at "gs"
        refine g_mkT (by rw [List.append_nil, List.length_cons, List.length_map]; omega) fun p3 H5 np3 k5 e5 => ?_
        refine g_xEl (k5.at_ eD List.not_mem_nil) (by omega) fun H6 k6 e6 => ⟨Kp.step1 (k4.trans k5) k6 (.inr nD), ?_⟩
        rw [take_next (g := fun r => (2 + (i : Int)) :: r) hr', List.map_append]
        rw [List.append_nil] at e5
        exact (k6.tdA (k5.tdA ta)).app (.cons (k6.td (Td.vI (ns := (2 + (i : Int)) :: r) (SqT.of e5))) .nil)
      · rw [l2, List.take_length] at ta
        have lw := tw.length
        have la := ta.length
        rw [List.length_map] at lw la
        rw [List.length_map] at la
        have lt : ((List.range i).flatMap fun (j : Nat) => (szW b (n + 1) (t - (2 + (j : Int)))).map fun r => (2 + (j : Int)) :: r).length ≤ 90000 := szW_pre hb (by omega) (by omega)
        have sml := szW_pre1 (b := b) (n := n + 1) (t := t - (2 + (i : Int))) hb (by omega)
        walk_at "gs"
        refine g_extend (xs := ws) (ys := acc) (k4.at_ (k3.at_ ew List.not_mem_nil) List.not_mem_nil) eD (by omega) fun H5 k5 e5 => ?_
        walk_at "gs"
        refine ⟨Kp.step1 (k2.trans (k3.trans k4)) k5 (.inr npH), ws ++ acc, _, _, e5, ?_, rfl⟩
        rw [List.range_succ, List.flatMap_append, List.map_append]
        refine (k5.tdA (k4.tdA (k3.tdA tw))).app ?_
        simpa using k5.tdA ta
    · rintro σ' H2 ⟨k2, ws, y4, y5, ew, tw, rfl⟩
      walk_at "gs"
      rw [show (mn + 1 - 2).toNat = (mn - 1).toNat by omega] at tw
      exact k pf ws H2 npf k2 ew tw
theorem ok_check_wheel {C : Addr} (F : Fun K "check_wheel" "check_wheel" s_check_wheel f fd) (T : ScT K C) (c_is_integer : Cal CX0 P w K mg base 1 "is_integer" (spIsInt K)) : FnOk P w K mg base CX0 2 f fd ["script", "wheel"] (spCheckWheel K C) := by
  refine F.ok sc_check_wheel (fun vs H Q E h => ?_) (fun cdv A outer s H vs Q E hr h => ?_)
  · obtain ⟨_, _, _, _, rfl, _⟩ := h
    rfl
  obtain ⟨a, n, wh, l, rfl, sc, hw, k⟩ := h
  refine ⟨_, (pss_one (ps_if (pt_not (pt_val (pe_c c_is_integer hr (by first | decide | omega) (by rfl) (pa_cons (pv 1) (pa_cons pe_int (pa_cons (pe_op op_sub (pe_fldK (K := K) (pv 0) rfl) pe_int) pa_nil)))))) (pss_one ps_never) pss_nil)), ?_⟩
  try dsimp only [nox_K]
  walk_at "gs"
  intro H1 k1
  have e1 : intIn 0 ((n : Int) - 1) (.int (wh : Int)) = true := by
    simp only [intIn, Bool.and_eq_true, decide_eq_true_eq]
    omega
  rw [e1]
  walk_at "gs"
  exact k H1 k1
end
abbrev s_ever : Stmt := topS 44
abbrev n_ever : List Str := ["script", "wheel", "place", "bound", "total", "sizes", "due"]
theorem sc_ever : FnScope n_ever ["script", "wheel", "place"] (defScope s_ever) := ⟨rfl, rfl, rfl, by decide +kernel, rfl, by decide +kernel, by decide +kernel⟩
abbrev s_parting_by : Stmt := topS 42
abbrev n_parting_by : List Str := ["one", "other", "bound", "total", "sizes"]
theorem sc_parting_by : FnScope n_parting_by ["one", "other"] (defScope s_parting_by) := ⟨rfl, rfl, rfl, by decide +kernel, rfl, by decide +kernel, by decide +kernel⟩
abbrev s_is_same : Stmt := topS 46
abbrev n_is_same : List Str := ["script", "steps"]
theorem sc_is_same : FnScope n_is_same ["script", "steps"] (defScope s_is_same) := ⟨rfl, rfl, rfl, by decide +kernel, rfl, by decide +kernel, by decide +kernel⟩
section
variable {P : Program} {w : World} {K : PySem.W.Frag} {mg : Str → Option Value} {base : Heap} {f : Addr} {fd : FuncData}
theorem ok_ever {C : Addr} (F : Fun K "ever" "ever" s_ever f fd) (N : Nm mg) (T : ScT K C) (c_check_wheel : Cal CX0 P w K mg base 2 "check_wheel" (spCheckWheel K C)) (c_is_integer : Cal CX0 P w K mg base 1 "is_integer" (spIsInt K)) (c_bound_of : Cal CX0 P w K mg base 1 "bound_of" spBoundOf) (q_Script_reach : Prp CX0 P w K mg base 3 C "reach" (spReach K C))
    (c_sizes_with : Cal CX0 P w K mg base 3 "sizes_with" (spSizesWith K 3)) (c_shown_by : Cal CX0 P w K mg base 6 "shown_by" (spShownBy K C)) (g_MOST_ASKED : Gc mg "MOST_ASKED" (.int 3)) (g_LEAST_SIZE : Gc mg "LEAST_SIZE" (.int 2)) : FnOk P w K mg base CX0 7 f fd ["script", "wheel", "place"] (spEver K C) := by
  have m_range := N.range
  refine F.ok sc_ever (fun vs H Q E h => ?_) (fun cdv A outer s H vs Q E hr h => ?_)
  · obtain ⟨_, _, _, _, _, rfl, _⟩ := h
    rfl
  obtain ⟨a, n, wh, l, p, rfl, sc, hw, hp1, hp2, k⟩ := h
  have n1 := sc.n1
  have n3 := sc.n3
  have hrc := reach_le sc.ok
  have hcn := sc.cn
  refine ⟨_, (pss_cons (ps_expr (pe_c c_check_wheel hr (by first | decide | omega) (by rfl) (pa_cons (pv 0) (pa_cons (pv 1) pa_nil))))
      (pss_cons (ps_if (pt_not (pt_val (pe_c c_is_integer hr (by first | decide | omega) (by rfl) (pa_cons (pv 2) (pa_cons (pe_un un_neg (pe_g (by rfl) g_MOST_ASKED)) (pa_cons (pe_g (by rfl) g_MOST_ASKED) pa_nil)))))) (pss_one ps_never) pss_nil)
      (pss_cons (ps_set (i := 3) sc_ever.nd rfl (by first | exact Or.inl rfl | exact Or.inr rfl) (pe_c c_bound_of hr (by first | decide | omega) (by rfl) (pa_cons (pe_fldK (K := K) (pv 0) rfl) (pa_cons (pe_pr q_Script_reach hr (by decide) (pv 0) rfl) pa_nil))))
      (pss_cons (ps_for PassesOwn.never rfl (pi_range2 (by rfl) m_range (pa_cons (pe_op op_mul (pe_g (by rfl) g_LEAST_SIZE) (pe_fldK (K := K) (pv 0) rfl)) (pa_cons (pe_op op_add (pe_op op_mul (pv 3) (pe_fldK (K := K) (pv 0) rfl)) pe_int) pa_nil))) (pg_name (i := 4) sc_ever.nd rfl (by first | exact Or.inl rfl | exact Or.inr rfl)) (pss_one (ps_for PassesOwn.never rfl (pi_listK (K := K) (pe_c c_sizes_with hr (by first | decide | omega) (by rfl) (pa_cons (pe_fldK (K := K) (pv 0) rfl) (pa_cons (pv 4) (pa_cons (pv 3) pa_nil))))) (pg_name (i := 5) sc_ever.nd rfl (by first | exact Or.inl rfl | exact Or.inr rfl)) (pss_cutW (ps_set (i := 6) sc_ever.nd rfl (by first | exact Or.inl rfl | exact Or.inr rfl) (pe_ifExp (pt_cmpR op_ge (pv 2) pe_int (nomark _)) (pv 2) (pe_op op_add (pe_ix (ix_tupK (K := K)) (pv 5) (pv 1) (fun _ _ => rfl)) (pv 2))))
      (pss_one (ps_if (pt_cmpR op_eq (pe_ix (ix_tupK (K := K)) (pe_c c_shown_by hr (by first | decide | omega) (by rfl) (pa_cons (pv 0) (pa_cons (pv 5) pa_nil))) (pv 1) (fun _ _ => rfl)) (pv 6) (nomark _)) (pss_one (ps_ret (pv 5))) pss_nil))))))
      (pss_one (ps_ret pe_non)))))), ?_⟩
  try dsimp only [nox_K]
  walk_at "gs"
  refine ⟨a, n, wh, l, rfl, sc, hw, fun H1 k1 => ?_⟩
  walk_at "gs"
  intro H2 k2
  have e1 : intIn (-3) 3 (.int p) = true := by
    simp only [intIn, Bool.and_eq_true, decide_eq_true_eq]
    omega
  rw [e1]
  have kk2 : Kp [] H H2 := k1.trans k2
  have sc2 := kk2.scr sc List.not_mem_nil
  walk_at "gs"
  obtain ⟨dx, v, e, t⟩ := sc2.at_
  refine g_xPr e ?_
  refine ⟨a, n, l, rfl, sc2, fun H3 k3 => ?_⟩
  walk_at "gs"
  refine ⟨n, reachZ l, rfl, n3, by omega, ?_⟩
  have sc3 := k3.scr sc2 List.not_mem_nil
  have kk : Kp [] H H3 := kk2.trans k3
  have hbl : bndZ n (reachZ l) ≤ 300 := bndZ_le n3 (by omega)
  walk_at "gs"
  unfold everZ at k
  have bl : bndZ n (reachZ l) ≤ 300 := hbl
  obtain ⟨b, hb⟩ : ∃ b, b = bndZ n (reachZ l) := ⟨_, rfl⟩
  rw [← hb] at bl k ⊢
  have tn : (2 : Int) * (n : Int) = ((2 * n : Nat) : Int) := by omega
  have bn : b * n ≤ 300 * 3 := Nat.mul_le_mul bl n3
  have hbn : (b : Int) * (n : Int) = ((b * n : Nat) : Int) := by norm_cast
  walk_at "gs"
  refine g_rI (show CMul _ _ from .inl ⟨by omega, by omega⟩) ?_
  walk_at "gs"
  rw [hbn]
  refine g_xRng2 (by omega) ?_
  refine g_loopR (fun i σ' H' => Kp [] H H' ∧ (∀ s ∈ (List.range i).flatMap fun (i : Nat) => szW b n (2 * (n : Int) + (i : Int)), decide ((shownZ s l).getD wh 0 = if 0 ≤ p then p else s.getD wh 0 + p) = false) ∧ ∃ y4 y5 y6, σ' = [some (.ref a), some (.int wh), some (.int p), some (.int b), y4, y5, y6]) ⟨kk, fun _ z => (nomatch z), _, _, _, rfl⟩ ?_ ?_
  · rintro i σ' H2 hi ⟨k2, ht, y4, y5, y6, rfl⟩
    have sc2 := k2.scr sc List.not_mem_nil
    walk_at "gs"
    refine ⟨n, b, 2 * (n : Int) + (i : Int), rfl, n1, n3, n3, bl, by omega, by omega, fun p2 ws H3 np2 k3 e3 t3 => ?_⟩
    walk_at "gs"
    have l2 := t3.length
    rw [List.length_map] at l2
    refine g_loopL (xs := ws) (fun j σ' H' => Kp [] H3 H' ∧ (∀ s ∈ (szW b n (2 * (n : Int) + (i : Int))).take j, decide ((shownZ s l).getD wh 0 = if 0 ≤ p then p else s.getD wh 0 + p) = false) ∧ ∃ y5 y6, σ' = [some (.ref a), some (.int wh), some (.int p), some (.int b), some (.int (2 * (n : Int) + (i : Int))), y5, y6]) ⟨Kp.refl _, fun _ z => absurd z (by simp), _, _, rfl⟩ (fun j σ' H' _ ⟨k', _⟩ => SqL.of (k'.at_ e3 List.not_mem_nil)) ?_ ?_
    · rintro j x σ' H4 hx ⟨k4, hj', y5, y6, rfl⟩
      have hj : j < (szW b n (2 * (n : Int) + (i : Int))).length := by
        have := (List.getElem?_eq_some_iff.mp hx).1
        omega
      obtain ⟨r, hr'⟩ : ∃ r, (szW b n (2 * (n : Int) + (i : Int)))[j]? = some r := ⟨_, List.getElem?_eq_getElem hj⟩
      obtain ⟨x', hx', tx⟩ := (k4.tdA t3).get (i := j) (d := dInts r) (by rw [List.getElem?_map, hr']; rfl)
      rw [hx] at hx'
      cases hx'
      obtain ⟨pr, xr, rfl, sr, tr⟩ := tx.inv
      obtain rfl := tr.vIInv
      obtain ⟨n', rfl⟩ : ∃ m, n = m + 1 := ⟨n - 1, by omega⟩
      have rb := (szW_mem.mp (List.mem_of_getElem? hr')).1
      have rl := rb.1
      have k24 : Kp [] H H4 := k2.trans (k3.trans k4)
      have found : (fun s => decide ((shownZ s l).getD wh 0 = if 0 ≤ p then p else s.getD wh 0 + p)) r = true → (allS b (n' + 1)).find? (fun s => decide ((shownZ s l).getD wh 0 = if 0 ≤ p then p else s.getD wh 0 + p)) = some r := fun e => by
        obtain ⟨post, hp⟩ := flat_split (f := fun (i : Nat) => szW b (n' + 1) (2 * ((n' + 1 : Nat) : Int) + (i : Int))) (xs := List.range (b * (n' + 1) + 1 - 2 * (n' + 1))) (i := i) (a := i) (List.getElem?_range (by omega)) hr'
        unfold allS
        rw [hp]
        refine find_split (fun y hy => ?_) e
        rcases List.mem_append.mp hy with z | z
        · rw [List.take_range, Nat.min_eq_left (by omega)] at z
          exact ht y z
        · exact hj' y z
      have next : (fun s => decide ((shownZ s l).getD wh 0 = if 0 ≤ p then p else s.getD wh 0 + p)) r = false → ∀ s ∈ (szW b (n' + 1) (2 * ((n' + 1 : Nat) : Int) + (i : Int))).take (j + 1), decide ((shownZ s l).getD wh 0 = if 0 ≤ p then p else s.getD wh 0 + p) = false := fun e s hs => by
        rw [List.take_add_one, hr'] at hs
        rcases List.mem_append.mp hs with z | z
        · exact hj' s z
        · simp only [Option.toList, List.mem_singleton] at z
          rw [z]
          exact e
      have hy := List.getElem?_eq_getElem (show wh < r.length by omega)
      have sc4 := k24.scr sc List.not_mem_nil
      walk_at "gs"
      refine g_cutW (fun σ' H' => H' = H4 ∧ σ' = [some (.ref a), some (.int wh), some (.int p), some (.int b), some (.int (2 * ((n' + 1 : Nat) : Int) + (i : Int))), some (.ref pr), some (.int (if 0 ≤ p then p else r.getD wh 0 + p))]) ?_ ?_
      · walk_at "gs"
        refine g_both (fun c => ?_) (fun c => ?_)
        · walk_at "gs"
          refine ⟨rfl, ?_⟩
          rw [if_pos c]
          rfl
        · walk_at "gs"
          refine g_ixT sr (atI_nat (vI_get hy)) ?_
          walk_at "gs"
          refine ⟨rfl, ?_⟩
          rw [if_neg c, List.getD_eq_getElem?_getD, hy]
          rfl
      · rintro σ' H' ⟨rfl, rfl⟩
        walk_at "gs"
        refine ap_shownBy sc4 sr rl fun pz H5 k5 sz => ?_
        have hz := List.getElem?_eq_getElem (show wh < (shownZ r l).length by rw [shownZ_len]; omega)
        walk_at "gs"
        refine g_ixT sz (atI_nat (vI_get hz)) ?_
        walk_at "gs"
        have hg : (shownZ r l).getD wh 0 = (shownZ r l)[wh]'(by rw [shownZ_len]; omega) := by
          rw [List.getD_eq_getElem?_getD, hz]
          rfl
        rw [← hg]
        refine g_both (fun c => ?_) (fun c => ?_)
        · walk_at "gs"
          refine k (.ref pr) H5 (k24.trans k5) ?_
          rw [found (decide_eq_true c)]
          exact Td.vI (k5.sqT sr)
        · walk_at "gs"
          exact ⟨k4.trans k5, next (decide_eq_false c), _, _, rfl⟩
    · rintro σ' H4 ⟨k4, hj', y5, y6, rfl⟩
      rw [l2, List.take_length] at hj'
      refine ⟨k2.trans (k3.trans k4), fun s hs => ?_, _, _, _, rfl⟩
      rw [List.range_succ, List.flatMap_append] at hs
      rcases List.mem_append.mp hs with z | z
      · exact ht s z
      · exact hj' s (by simpa using z)
  · rintro σ' H2 ⟨k2, ht, y4, y5, y6, rfl⟩
    walk_at "gs"
    refine k .non H2 k2 ?_
    have e : (allS b n).find? (fun s => decide ((shownZ s l).getD wh 0 = if 0 ≤ p then p else s.getD wh 0 + p)) = none := by
      rw [List.find?_eq_none]
      intro s hs e
      unfold allS at hs
      rw [show b * n + 1 - 2 * n = (((b * n : Nat) : Int) + 1 - 2 * (n : Int)).toNat by omega] at hs
      rw [ht s hs] at e
      cases e
    rw [e]
    exact .non
theorem ok_parting_by {C : Addr} (F : Fun K "parting_by" "parting_by" s_parting_by f fd) (N : Nm mg) (T : ScT K C) (c_bound_of : Cal CX0 P w K mg base 1 "bound_of" spBoundOf) (q_Script_reach : Prp CX0 P w K mg base 3 C "reach" (spReach K C)) (c_sizes_with : Cal CX0 P w K mg base 3 "sizes_with" (spSizesWith K 3)) (c_shown_by : Cal CX0 P w K mg base 6 "shown_by" (spShownBy K C)) (g_LEAST_SIZE : Gc mg "LEAST_SIZE" (.int 2)) : FnOk P w K mg base CX0 7 f fd ["one", "other"] (spParting K C) := by
  have m_range := N.range
  have m_max := N.max
  refine F.ok sc_parting_by (fun vs H Q E h => ?_) (fun cdv A outer s H vs Q E hr h => ?_)
  · obtain ⟨_, _, _, _, _, rfl, _⟩ := h
    rfl
  obtain ⟨a, a2, n, l, m, rfl, sc, sd, k⟩ := h
  have n1 := sc.n1
  have n3 := sc.n3
  have hrc := reach_le sc.ok
  have hcn := sc.cn
  have hrd := reach_le sd.ok
  have hdn := sd.cn
  refine ⟨_, (pss_cons (ps_if (pt_cmpR op_ne (pe_fldK (K := K) (pv 0) rfl) (pe_fldK (K := K) (pv 1) rfl) (nomark _)) (pss_one ps_never) pss_nil)
      (pss_cons (ps_set (i := 2) sc_parting_by.nd rfl (by first | exact Or.inl rfl | exact Or.inr rfl) (pe_c c_bound_of hr (by first | decide | omega) (by rfl) (pa_cons (pe_fldK (K := K) (pv 0) rfl) (pa_cons (pe_callB (w_max2 (by rfl)) (by rfl) m_max (by decide +kernel) (pa_cons (pe_pr q_Script_reach hr (by decide) (pv 0) rfl) (pa_cons (pe_pr q_Script_reach hr (by decide) (pv 1) rfl) pa_nil))) pa_nil))))
      (pss_cons (ps_for PassesOwn.never rfl (pi_range2 (by rfl) m_range (pa_cons (pe_op op_mul (pe_g (by rfl) g_LEAST_SIZE) (pe_fldK (K := K) (pv 0) rfl)) (pa_cons (pe_op op_add (pe_op op_mul (pv 2) (pe_fldK (K := K) (pv 0) rfl)) pe_int) pa_nil))) (pg_name (i := 3) sc_parting_by.nd rfl (by first | exact Or.inl rfl | exact Or.inr rfl)) (pss_one (ps_for PassesOwn.never rfl (pi_listK (K := K) (pe_c c_sizes_with hr (by first | decide | omega) (by rfl) (pa_cons (pe_fldK (K := K) (pv 0) rfl) (pa_cons (pv 3) (pa_cons (pv 2) pa_nil))))) (pg_name (i := 4) sc_parting_by.nd rfl (by first | exact Or.inl rfl | exact Or.inr rfl)) (pss_one (ps_if (pt_cmpR (op_neDK (K := K) hr) (pe_c c_shown_by hr (by first | decide | omega) (by rfl) (pa_cons (pv 0) (pa_cons (pv 4) pa_nil))) (pe_c c_shown_by hr (by first | decide | omega) (by rfl) (pa_cons (pv 1) (pa_cons (pv 4) pa_nil))) (nomark _)) (pss_one (ps_ret (pv 4))) pss_nil)))))
      (pss_one (ps_ret pe_non))))), ?_⟩
  try dsimp only [nox_K]
  walk_at "gs"
  refine g_bothN (fun c => absurd rfl c) (fun _ => ?_)
  walk_at "gs"
  obtain ⟨dx, v, e, t⟩ := sc.at_
  refine g_xPr e ?_
  refine ⟨a, n, l, rfl, sc, fun H1 k1 => ?_⟩
  have sd1 := k1.scr sd List.not_mem_nil
  walk_at "gs"
  obtain ⟨dy, u, e', t'⟩ := sd1.at_
  refine g_xPr e' ?_
  refine ⟨a2, n, m, rfl, sd1, fun H3 k3 => ?_⟩
  walk_at "gs"
  have em : (if (reachZ m : Int) > (reachZ l : Int) then (reachZ m : Int) else (reachZ l : Int)) = ((max (reachZ l) (reachZ m) : Nat) : Int) := by
    split <;> omega
  rw [em]
  refine ⟨n, max (reachZ l) (reachZ m), rfl, n3, by omega, ?_⟩
  have kk : Kp [] H H3 := k1.trans k3
  have sc3 := kk.scr sc List.not_mem_nil
  have hbl : bndZ n (max (reachZ l) (reachZ m)) ≤ 300 := bndZ_le n3 (by omega)
  walk_at "gs"
  unfold partZ at k
  have bl : bndZ n (max (reachZ l) (reachZ m)) ≤ 300 := hbl
  obtain ⟨b, hb⟩ : ∃ b, b = bndZ n (max (reachZ l) (reachZ m)) := ⟨_, rfl⟩
  rw [← hb] at bl k ⊢
  have tn : (2 : Int) * (n : Int) = ((2 * n : Nat) : Int) := by omega
  have bn : b * n ≤ 300 * 3 := Nat.mul_le_mul bl n3
  have hbn : (b : Int) * (n : Int) = ((b * n : Nat) : Int) := by norm_cast
  walk_at "gs"
  refine g_rI (show CMul _ _ from .inl ⟨by omega, by omega⟩) ?_
  walk_at "gs"
  rw [hbn]
  refine g_xRng2 (by omega) ?_
  refine g_loopR (fun i σ' H' => Kp [] H H' ∧ (∀ s ∈ (List.range i).flatMap fun (i : Nat) => szW b n (2 * (n : Int) + (i : Int)), decide (¬ shownZ s l = shownZ s m) = false) ∧ ∃ y3 y4, σ' = [some (.ref a), some (.ref a2), some (.int b), y3, y4]) ⟨kk, fun _ z => (nomatch z), _, _, rfl⟩ ?_ ?_
  · rintro i σ' H2 hi ⟨k2, ht, y3, y4, rfl⟩
    have sc2 := k2.scr sc List.not_mem_nil
    walk_at "gs"
    refine ⟨n, b, 2 * (n : Int) + (i : Int), rfl, n1, n3, n3, bl, by omega, by omega, fun p2 ws H3 np2 k3 e3 t3 => ?_⟩
    walk_at "gs"
    have l2 := t3.length
    rw [List.length_map] at l2
    refine g_loopL (xs := ws) (fun j σ' H' => Kp [] H3 H' ∧ (∀ s ∈ (szW b n (2 * (n : Int) + (i : Int))).take j, decide (¬ shownZ s l = shownZ s m) = false) ∧ ∃ y4, σ' = [some (.ref a), some (.ref a2), some (.int b), some (.int (2 * (n : Int) + (i : Int))), y4]) ⟨Kp.refl _, fun _ z => absurd z (by simp), _, rfl⟩ (fun j σ' H' _ ⟨k', _⟩ => SqL.of (k'.at_ e3 List.not_mem_nil)) ?_ ?_
    · rintro j x σ' H4 hx ⟨k4, hj', y4, rfl⟩
      have hj : j < (szW b n (2 * (n : Int) + (i : Int))).length := by
        have := (List.getElem?_eq_some_iff.mp hx).1
        omega
      obtain ⟨r, hr'⟩ : ∃ r, (szW b n (2 * (n : Int) + (i : Int)))[j]? = some r := ⟨_, List.getElem?_eq_getElem hj⟩
      obtain ⟨x', hx', tx⟩ := (k4.tdA t3).get (i := j) (d := dInts r) (by rw [List.getElem?_map, hr']; rfl)
      rw [hx] at hx'
      cases hx'
      obtain ⟨pr, xr, rfl, sr, tr⟩ := tx.inv
      obtain rfl := tr.vIInv
      obtain ⟨n', rfl⟩ : ∃ m, n = m + 1 := ⟨n - 1, by omega⟩
      have rb := (szW_mem.mp (List.mem_of_getElem? hr')).1
      have rl := rb.1
      have k24 : Kp [] H H4 := k2.trans (k3.trans k4)
      have found : (fun s => decide (¬ shownZ s l = shownZ s m)) r = true → (allS b (n' + 1)).find? (fun s => decide (¬ shownZ s l = shownZ s m)) = some r := fun e => by
        obtain ⟨post, hp⟩ := flat_split (f := fun (i : Nat) => szW b (n' + 1) (2 * ((n' + 1 : Nat) : Int) + (i : Int))) (xs := List.range (b * (n' + 1) + 1 - 2 * (n' + 1))) (i := i) (a := i) (List.getElem?_range (by omega)) hr'
        unfold allS
        rw [hp]
        refine find_split (fun y hy => ?_) e
        rcases List.mem_append.mp hy with z | z
        · rw [List.take_range, Nat.min_eq_left (by omega)] at z
          exact ht y z
        · exact hj' y z
      have next : (fun s => decide (¬ shownZ s l = shownZ s m)) r = false → ∀ s ∈ (szW b (n' + 1) (2 * ((n' + 1 : Nat) : Int) + (i : Int))).take (j + 1), decide (¬ shownZ s l = shownZ s m) = false := fun e s hs => by
        rw [List.take_add_one, hr'] at hs
        rcases List.mem_append.mp hs with z | z
        · exact hj' s z
        · simp only [Option.toList, List.mem_singleton] at z
          rw [z]
          exact e
      have sc4 := k24.scr sc List.not_mem_nil
      have sd4 := k24.scr sd List.not_mem_nil
      walk_at "gs"
      refine ap_shownBy sc4 sr rl fun pz H5 k5 sz => ?_
      walk_at "gs"
      refine ap_shownBy (k5.scr sd4 List.not_mem_nil) (k5.sqT sr) rl fun pz2 H6 k6 sz2 => ?_
      walk_at "gs"
      refine g_rNeDp (d := dInts (shownZ r l)) (e := dInts (shownZ r m)) (Td.vI (k6.sqT sz)).dp (Td.vI sz2).dp (dInts_s _) (dInts_s _) ?_
      rw [eqv_dI]
      refine g_xBl ?_
      refine g_bothN (fun c => ?_) (fun c => ?_)
      · walk_at "gs"
        refine k (.ref pr) H6 (k24.trans (k5.trans k6)) ?_
        rw [found (decide_eq_true c)]
        exact Td.vI (k6.sqT (k5.sqT sr))
      · walk_at "gs"
        exact ⟨k4.trans (k5.trans k6), next (decide_eq_false fun z => z c), _, rfl⟩
    · rintro σ' H4 ⟨k4, hj', y4, rfl⟩
      rw [l2, List.take_length] at hj'
      refine ⟨k2.trans (k3.trans k4), fun s hs => ?_, _, _, rfl⟩
      rw [List.range_succ, List.flatMap_append] at hs
      rcases List.mem_append.mp hs with z | z
      · exact ht s z
      · exact hj' s (by simpa using z)
  · rintro σ' H2 ⟨k2, ht, y3, y4, rfl⟩
    walk_at "gs"
    refine k .non H2 k2 ?_
    have e : (allS b n).find? (fun s => decide (¬ shownZ s l = shownZ s m)) = none := by
      rw [List.find?_eq_none]
      intro s hs e
      unfold allS at hs
      rw [show b * n + 1 - 2 * n = (((b * n : Nat) : Int) + 1 - 2 * (n : Int)).toNat by omega] at hs
      rw [ht s hs] at e
      cases e
    rw [e]
    exact .non
theorem ok_is_same {C : Addr} (F : Fun K "is_same" "is_same" s_is_same f fd) (T : ScT K C) (c_parting_by : Cal CX0 P w K mg base 7 "parting_by" (spParting K C)) (k_Script : Mak CX0 P w K mg base 5 "Script" C (spInit K C)) : FnOk P w K mg base CX0 8 f fd ["script", "steps"] (spIsSame K C) := by
  refine F.ok sc_is_same (fun vs H Q E h => ?_) (fun cdv A outer s H vs Q E hr h => ?_)
  · obtain ⟨_, _, _, _, _, _, rfl, _⟩ := h
    rfl
  obtain ⟨a, a2, n, l, m, xs, rfl, sc, sx, tx, om, cm, k⟩ := h
  have n1 := sc.n1
  have n3 := sc.n3
  refine ⟨_, (pss_one (ps_ret (pe_cmpR w_isN (pe_c c_parting_by hr (by first | decide | omega) (by rfl) (pa_cons (pv 0) (pa_cons (pe_mk k_Script hr (by first | decide | omega) (by rfl) (pa_cons (pe_fldK (K := K) (pv 0) rfl) (pa_cons (pv 1) pa_nil))) pa_nil))) pe_non (nomark _)))), ?_⟩
  try dsimp only [nox_K]
  walk_at "gs"
  refine ap_script (.tup sx tx) om cm n1 n3 fun mo H1 nmo k1 so => ?_
  refine ⟨a, mo, n, l, m, rfl, k1.scr sc List.not_mem_nil, so, fun v H2 k2 tv => ?_⟩
  walk_at "gs"
  rw [opt_none tv]
  exact k H2 (k1.trans k2)
end
abbrev s_needless : Stmt := topS 47
abbrev n_needless : List Str := ["script", "rows", "at"]
theorem sc_needless : FnScope n_needless ["script"] (defScope s_needless) := ⟨rfl, rfl, rfl, by decide +kernel, rfl, by decide +kernel, by decide +kernel⟩
abbrev s_swaps : Stmt := topS 48
abbrev n_swaps : List Str := ["script", "rows", "found", "at"]
theorem sc_swaps : FnScope n_swaps ["script"] (defScope s_swaps) := ⟨rfl, rfl, rfl, by decide +kernel, rfl, by decide +kernel, by decide +kernel⟩
section
variable {P : Program} {w : World} {K : PySem.W.Frag} {mg : Str → Option Value} {base : Heap} {f : Addr} {fd : FuncData}
theorem ok_needless {C : Addr} (F : Fun K "needless" "needless" s_needless f fd) (N : Nm mg) (T : ScT K C) (c_is_same : Cal CX0 P w K mg base 8 "is_same" (spIsSame K C)) : FnOk P w K mg base CX0 9 f fd ["script"] (spNeedless K C) := by
  have m_range := N.range
  have m_len := N.len
  refine F.ok sc_needless (fun vs H Q E h => ?_) (fun cdv A outer s H vs Q E hr h => ?_)
  · obtain ⟨_, _, _, rfl, _⟩ := h
    rfl
  obtain ⟨a, n, l, rfl, sc, k⟩ := h
  refine ⟨_, (pss_cons (ps_set (i := 1) sc_needless.nd rfl (by first | exact Or.inl rfl | exact Or.inr rfl) (pe_fldK (K := K) (pv 0) rfl))
      (pss_one (ps_ret (pe_lc (own := [("at", 2)]) (by rfl) sc_needless.nd (pi_range1 (by rfl) m_range (pa_cons (pe_callB (w_lenK (K := K)) (by rfl) m_len (by decide +kernel) (pa_cons (pv 1) pa_nil)) pa_nil)) (blkOk_by (own := [("at", 2)]) (N := n_needless) (sc := defScope s_needless) (by decide +kernel)) (fun _ _ _ _ _ => (pg_name (i := 2) sc_needless.nd rfl (by first | exact Or.inl rfl | exact Or.inr rfl))) (fun _ _ _ _ _ => (pts_one (pt_val (pe_c c_is_same hr (by first | decide | omega) (by rfl) (pa_cons (pv 0) (pa_cons (pe_tup (pa_starK (K := K) (pe_slice (sl_tupAK (K := K)) (pv 1) po_none (po_some (pv 2))) (pa_starK (K := K) (pe_slice (sl_tupAK (K := K)) (pv 1) (po_some (pe_op op_add (pv 2) pe_int)) po_none) pa_nil))) pa_nil)))))) (fun _ _ _ _ _ => (pv 2)))))), ?_⟩
  try dsimp only [nox_K]
  walk_at "gs"
  intro p xs sp tt
  have lx := tt.length
  rw [List.length_map] at lx
  have hll : l.length ≤ 5 := by
    have := cnts_len l
    have := sc.cn
    omega
  walk_at "gs"
  refine g_xRng1 (by omega) (by omega) ?_
  refine g_compR (fun D j acc H' => Kp [] H H' ∧ acc = vI (((List.range j).filter fun i => (partZ l (l.take i ++ l.drop (i + 1)) n).isNone).map fun (i : Nat) => (i : Int))) (fun D H1 hD k1 => ⟨k1, rfl⟩) (fun D j acc H1 nD hj eD ⟨k1, ha⟩ => ?_) (fun D acc H1 nD eD ⟨k1, ha⟩ => ?_)
  · have hal : acc.length ≤ j := by
      rw [ha, vI_length, List.length_map]
      exact Nat.le_trans (List.length_filter_le _ _) (by simp)
    walk_at "gs"
    intro q1 H2 k2 s2
    rw [Int.zero_add, cutV_take] at s2
    have sp2 := k2.sqT (k1.sqT sp)
    have tt2 := k2.tdA (k1.tdA tt)
    walk_at "gs"
    intro q3 H3 k3 s3
    rw [show (0 + (j : Int) + 1) = ((j + 1 : Nat) : Int) by omega, cutV_drop] at s3
    have s23 := k3.sqT s2
    have tt3 := k3.tdA tt2
    walk_at "gs"
    refine g_mkT (by simp only [List.length_append, List.length_take, List.length_drop, List.length_nil]; omega) fun q4 H4 nq4 k4 e4 => ?_
    walk_at "gs"
    have k14 : Kp [] H1 H4 := k2.trans (k3.trans k4)
    have om : StepsOk n (l.take j ++ l.drop (j + 1)) := fun s hs => sc.ok s (by
      rcases List.mem_append.mp hs with z | z
      · exact List.mem_of_mem_take z
      · exact List.mem_of_mem_drop z)
    have cm : cnts (l.take j ++ l.drop (j + 1)) ≤ 5 := Nat.le_trans (cnts_out l j) sc.cn
    refine ⟨a, q4, n, l, l.take j ++ l.drop (j + 1), xs.take j ++ (xs.drop (j + 1) ++ []), rfl, (k1.trans k14).scr sc List.not_mem_nil, SqT.of e4, ?_, om, cm, fun H5 k5 => ?_⟩
    · rw [List.append_nil, List.map_append, List.map_take, List.map_drop]
      exact k4.tdA ((tt3.take j).app (tt3.drop (j + 1)))
    walk_at "gs"
    rw [filt_next]
    have eD5 : H5 D = some (.lst acc) := (k14.trans k5).at_ eD List.not_mem_nil
    cases hB : (partZ l (l.take j ++ l.drop (j + 1)) n).isNone
    · walk_at "gs"
      refine g_accP eD5 ⟨k1.trans (k14.trans k5), ?_⟩
      rw [ha]
      simp
    · walk_at "gs"
      refine g_xEl eD5 (by omega) fun H6 k6 e6 => ⟨Kp.step1 (k1.trans (k14.trans k5)) k6 (.inr nD), ?_⟩
      rw [ha, Int.zero_add]
      exact (vI_app _ [(j : Int)]).symm
  · subst ha
    walk_at "gs"
    have e : (xs.length : Int).toNat = l.length := by omega
    rw [e] at eD
    exact k D H1 nD k1 eD
theorem ok_swaps {C : Addr} (F : Fun K "swaps" "swaps" s_swaps f fd) (N : Nm mg) (T : ScT K C) (c_is_same : Cal CX0 P w K mg base 8 "is_same" (spIsSame K C)) : FnOk P w K mg base CX0 9 f fd ["script"] (spSwaps K C) := by
  have m_range := N.range
  have m_len := N.len
  refine F.ok sc_swaps (fun vs H Q E h => ?_) (fun cdv A outer s H vs Q E hr h => ?_)
  · obtain ⟨_, _, _, rfl, _⟩ := h
    rfl
  obtain ⟨a, n, l, rfl, sc, k⟩ := h
  refine ⟨_, (pss_cons (ps_par (i := 1) (j := 2) (by rfl) sc_swaps.nd rfl rfl (by decide) rfl rfl (pa_cons (pe_fldK (K := K) (pv 0) rfl) (pa_cons (pe_lst pa_nil) pa_nil)) (by rfl))
      (pss_cons (ps_for PassesOwn.never rfl (pi_range1 (by rfl) m_range (pa_cons (pe_op op_sub (pe_callB (w_lenK (K := K)) (by rfl) m_len (by decide +kernel) (pa_cons (pv 1) pa_nil)) pe_int) pa_nil)) (pg_name (i := 3) sc_swaps.nd rfl (by first | exact Or.inl rfl | exact Or.inr rfl)) (pss_one (ps_if (pt_val (pe_c c_is_same hr (by first | decide | omega) (by rfl) (pa_cons (pv 0) (pa_cons (pe_tup (pa_starK (K := K) (pe_slice (sl_tupAK (K := K)) (pv 1) po_none (po_some (pv 3))) (pa_cons (pe_ix (ix_tupK (K := K)) (pv 1) (pe_op op_add (pv 3) pe_int) (fun _ _ => rfl)) (pa_cons (pe_ix (ix_tupK (K := K)) (pv 1) (pv 3) (fun _ _ => rfl)) (pa_starK (K := K) (pe_slice (sl_tupAK (K := K)) (pv 1) (po_some (pe_op op_add (pv 3) pe_int)) po_none) pa_nil))))) pa_nil)))) (pss_one (ps_expr (pe_bm PySem.F.plainAttrs_list PySem.F.slot_list_append PySem.F.type_list_append mt_append (pv 2) (pa_cons (pv 3) pa_nil)))) pss_nil)))
      (pss_one (ps_ret (pv 2))))), ?_⟩
  try dsimp only [nox_K]
  walk_at "gs"
  intro p xs sp tt
  have lx := tt.length
  rw [List.length_map] at lx
  have hll : l.length ≤ 5 := by
    have := cnts_len l
    have := sc.cn
    omega
  walk_at "gs"
  intro pf H1 npf k1 e1
  walk_at "gs"
  refine g_xRng1 (by omega) (by omega) ?_
  refine g_loopR (fun i σ' H' => Kp [] H H' ∧ H' pf = some (.lst (vI (((List.range i).filter fun i => (partZ l (exch l i) n).isNone).map fun (i : Nat) => (i : Int)))) ∧ ∃ y3, σ' = [some (.ref a), some (.ref p), some (.ref pf), y3]) ⟨k1, e1, _, rfl⟩ ?_ ?_
  · rintro i σ' H2 hi ⟨k2, e2, y3, rfl⟩
    have hi1 : i + 1 < l.length := by omega
    obtain ⟨sx, sy, hx, hy, e1', e2'⟩ := exch_at hi1
    obtain ⟨vx, hvx, tx⟩ := (k2.tdA tt).get (i := i) (d := sx.dat) (by rw [List.getElem?_map, hx]; rfl)
    obtain ⟨vy, hvy, ty⟩ := (k2.tdA tt).get (i := i + 1) (d := sy.dat) (by rw [List.getElem?_map, hy]; rfl)
    walk_at "gs"
    intro q1 H3 k3 s3
    rw [Int.zero_add, cutV_take] at s3
    have sp3 := k3.sqT (k2.sqT sp)
    have tt3 := k3.tdA (k2.tdA tt)
    walk_at "gs"
    refine g_ixT sp3 (by rw [show (0 + (i : Int) + 1) = ((i + 1 : Nat) : Int) by omega]; exact atI_nat hvy) ?_
    walk_at "gs"
    refine g_ixT sp3 (by rw [Int.zero_add]; exact atI_nat hvx) ?_
    walk_at "gs"
    intro q3 H4 k4 s4
    rw [show (0 + (i : Int) + 2) = ((i + 2 : Nat) : Int) by omega, cutV_drop] at s4
    have tt4 := k4.tdA tt3
    walk_at "gs"
    refine g_mkT (by simp only [List.length_append, List.length_cons, List.length_take, List.length_drop, List.length_nil]; omega) fun q4 H5 nq4 k5 e5 => ?_
    walk_at "gs"
    have k25 : Kp [] H2 H5 := k3.trans (k4.trans k5)
    have tx5 := k25.td tx
    have ty5 := k25.td ty
    refine ⟨a, q4, n, l, exch l i, xs.take i ++ (vy :: vx :: (xs.drop (i + 2) ++ [])), rfl, (k2.trans k25).scr sc List.not_mem_nil, SqT.of e5, ?_, fun s hs => sc.ok s (exch_mem hi1 hs), by rw [cnts_sum, exch_sum _ hi1]; exact sc.cn, fun H6 k6 => ?_⟩
    · rw [List.append_nil, e2', List.map_append, List.map_take]
      exact ((k5.tdA tt4).take i).app (.cons ty5 (.cons tx5 (by show TdA K H5 (xs.drop (i + 2)) ((l.drop (i + 2)).map Stp.dat); rw [List.map_drop]; exact (k5.tdA tt4).drop (i + 2))))
    have e6 : H6 pf = some (.lst (vI (((List.range i).filter fun i => (partZ l (exch l i) n).isNone).map fun (i : Nat) => (i : Int)))) := (k25.trans k6).at_ e2 List.not_mem_nil
    have hal : (vI (((List.range i).filter fun i => (partZ l (exch l i) n).isNone).map fun (i : Nat) => (i : Int))).length ≤ i := by
      rw [vI_length, List.length_map]
      exact Nat.le_trans (List.length_filter_le _ _) (by simp)
    walk_at "gs"
    rw [filt_next]
    cases hB : (partZ l (exch l i) n).isNone
    · walk_at "gs"
      refine ⟨k2.trans (k25.trans k6), ?_, _, rfl⟩
      rw [e6]
      simp
    · walk_at "gs"
      refine g_append e6 (by omega) fun H7 k7 e7 => ?_
      walk_at "gs"
      refine ⟨Kp.step1 (k2.trans (k25.trans k6)) k7 (.inr npf), ?_, _, rfl⟩
      rw [e7, Int.zero_add]
      exact congrArg (fun z => some (HO.lst z)) (vI_app _ [(i : Int)]).symm
  · rintro σ' H2 ⟨k2, e2, y3, rfl⟩
    walk_at "gs"
    rw [show ((xs.length : Int) - 1).toNat = l.length - 1 by omega] at e2
    exact k pf H2 npf k2 e2
end
abbrev s_Script_steps : Stmt := inClass (topS 22) 2
abbrev n_Script_steps : List Str := ["self"]
theorem sc_Script_steps : FnScope n_Script_steps ["self"] (defScope s_Script_steps) := ⟨rfl, rfl, rfl, by decide +kernel, rfl, by decide +kernel, by decide +kernel⟩
section
variable {P : Program} {w : World} {K : PySem.W.Frag} {mg : Str → Option Value} {base : Heap} {f : Addr} {fd : FuncData}
theorem ok_ssteps {C : Addr} (F : Fun K "steps" "Script.steps" s_Script_steps f fd) (T : ScT K C) : FnOk P w K mg base CX0 1 f fd ["self"] (spSSteps K C) := by
  refine F.ok sc_Script_steps (fun vs H Q E h => ?_) (fun cdv A outer s H vs Q E hr h => ?_)
  · obtain ⟨_, _, _, rfl, _⟩ := h
    rfl
  obtain ⟨a, n, l, rfl, h1, k⟩ := h
  refine ⟨_, (pss_one (ps_ret (pe_fldK (K := K) (pv 0) rfl))), ?_⟩
  try dsimp only [nox_K]
  walk_at "gs"
  intro p xs s t
  walk_at "gs"
  exact k p xs s t
end
abbrev s_settled : Stmt := topS 45
abbrev n_settled : List Str := ["script", "reach", "sizes", "pairs", "wheel", "place", "size"]
theorem sc_settled : FnScope n_settled ["script"] (defScope s_settled) := ⟨rfl, rfl, rfl, by decide +kernel, rfl, by decide +kernel, by decide +kernel⟩
section
variable {P : Program} {w : World} {K : PySem.W.Frag} {mg : Str → Option Value} {base : Heap} {f : Addr} {fd : FuncData}
theorem setS_succ (R j : Nat) : setS R (j + 1) = setS R j ++ [3 * (R : Int) + 1 + (j : Int) * ((R : Int) + 1)] := by
  unfold setS
  rw [List.range_succ, List.map_append]
  rfl
theorem ok_settled {C : Addr} (F : Fun K "settled" "settled" s_settled f fd) (N : Nm mg) (T : ScT K C) (q_Script_reach : Prp CX0 P w K mg base 3 C "reach" (spReach K C)) (c_shown_by : Cal CX0 P w K mg base 6 "shown_by" (spShownBy K C)) : FnOk P w K mg base CX0 7 f fd ["script"] (spSettled K C) := by
  have m_range := N.range
  have m_tuple := N.tuple
  have m_list := N.list
  have m_zip := N.zip
  refine F.ok sc_settled (fun vs H Q E h => ?_) (fun cdv A outer s H vs Q E hr h => ?_)
  · obtain ⟨_, _, _, rfl, _⟩ := h
    rfl
  obtain ⟨a, n, l, rfl, sc, k⟩ := h
  have n1 := sc.n1
  have n3 := sc.n3
  refine ⟨_, (pss_cons (ps_set (i := 1) sc_settled.nd rfl (by first | exact Or.inl rfl | exact Or.inr rfl) (pe_pr q_Script_reach hr (by decide) (pv 0) rfl))
      (pss_cons (ps_set (i := 2) sc_settled.nd rfl (by first | exact Or.inl rfl | exact Or.inr rfl) (pe_callTy (w_tupleK (K := K)) (by rfl) m_tuple (by decide +kernel) (pa_cons (pe_lc (own := [("wheel", 4)]) (tt := tYes) (by rfl) sc_settled.nd (pi_range1 (by rfl) m_range (pa_cons (pe_fldK (K := K) (pv 0) rfl) pa_nil)) (blkOk_by (own := [("wheel", 4)]) (N := n_settled) (sc := defScope s_settled) (by decide +kernel)) (fun _ _ _ _ _ => (pg_name (i := 4) sc_settled.nd rfl (by first | exact Or.inl rfl | exact Or.inr rfl))) (fun _ _ _ _ _ => pts_nil) (fun _ _ _ _ _ => (pe_op op_add (pe_op op_add (pe_op op_mul pe_int (pv 1)) pe_int) (pe_op op_mul (pv 4) (pe_op op_add (pv 1) pe_int))))) pa_nil)))
      (pss_cons (ps_set (i := 3) sc_settled.nd rfl (by first | exact Or.inl rfl | exact Or.inr rfl) (pe_listZip rfl (by rfl) m_list (by rfl) m_zip (pa_cons (pe_c c_shown_by hr (by first | decide | omega) (by rfl) (pa_cons (pv 0) (pa_cons (pv 2) pa_nil))) (pa_cons (pv 2) pa_nil))))
      (pss_one (ps_ret (pe_callTy (w_tupleK (K := K)) (by rfl) m_tuple (by decide +kernel) (pa_cons (pe_lc (own := [("place", 5), ("size", 6)]) (tt := tYes) (by rfl) sc_settled.nd (pi_listK (K := K) (pv 3)) (blkOk_by (own := [("place", 5), ("size", 6)]) (N := n_settled) (sc := defScope s_settled) (by decide +kernel)) (fun _ _ _ _ _ => (pg_tupK (K := K) (n := 2) (by rfl) (pgs_cons (pg_name (i := 5) sc_settled.nd rfl (by first | exact Or.inl rfl | exact Or.inr rfl)) (pgs_cons (pg_name (i := 6) sc_settled.nd rfl (by first | exact Or.inl rfl | exact Or.inr rfl)) pgs_nil)))) (fun _ _ _ _ _ => pts_nil) (fun _ _ _ _ _ => (pe_ifExp (pt_cmpR op_le (pv 5) (pv 1) (nomark _)) (pe_tup (pa_cons pe_str (pa_cons (pv 5) pa_nil))) (pe_tup (pa_cons pe_str (pa_cons (pe_op op_sub (pe_op op_sub (pv 6) pe_int) (pv 5)) pa_nil)))))) pa_nil))))))), ?_⟩
  try dsimp only [nox_K]
  obtain ⟨_, _, e0, _⟩ := sc.at_
  walk_at "gs"
  refine g_xPr e0 ⟨a, n, l, rfl, sc, fun H1 k1 => ?_⟩
  have sc1 := k1.scr sc List.not_mem_nil
  obtain ⟨R, hR⟩ : ∃ R, R = reachZ l := ⟨_, rfl⟩
  rw [← hR]
  walk_at "gs"
  refine g_xRng1 (by omega) (by omega) ?_
  refine g_compR (fun D j acc H' => Kp [] H1 H' ∧ acc = vI (setS R j)) (fun D H2 hD k2 => ⟨k2, rfl⟩) (fun D j acc H2 nD hj eD ⟨k2, ha⟩ => ?_) (fun D acc H2 nD eD ⟨k2, ha⟩ => ?_)
  · subst ha
    walk_at "gs"
    refine g_rI (show CMul _ _ from .inl ⟨by omega, by omega⟩) ?_
    walk_at "gs"
    refine g_xEl eD (by rw [vI_length, setS_len]; omega) fun H3 k3 e3 => ⟨Kp.step1 k2 k3 (.inr nD), ?_⟩
    rw [setS_succ, vI_app, show (0 : Int) + (j : Int) = (j : Int) by omega]
    rfl
  subst ha
  rw [show (n : Int).toNat = n by omega] at eD
  walk_at "gs"
  intro ps H3 nps k3 e3
  have sc3 := k3.scr (k2.scr sc1 List.not_mem_nil) List.not_mem_nil
  walk_at "gs"
  refine ap_shownBy (s := setS R n) sc3 (SqT.of e3) (setS_len R n) fun pz H4 k4 s4 => ?_
  walk_at "gs"
  have zl : (shownZ (setS R n) l).length = n := by rw [shownZ_len, setS_len]
  refine ⟨pz, ps, _, _, rfl, s4, SqT.of (k4.tp e3), by rw [vI_length, vI_length, zl, setS_len], by rw [vI_length, zl]; exact n1, by rw [vI_length, zl]; omega, fun q acc H5 nq k5 e5 le prd => ?_⟩
  rw [vI_length, zl] at le
  have kk : Kp [] H H5 := k1.trans (k2.trans (k3.trans (k4.trans k5)))
  have hset : setZ l n = List.zipWith (toldC R) (shownZ (setS R n) l) (setS R n) := by
    rw [hR]
    rfl
  have lset : (setZ l n).length = n := setZ_len sc.ok
  clear k1 k2 k3 k4 k5 s4 e3 eD nD nps nq sc1 sc3
  walk_at "gs"
  refine g_compL (xs := acc) (fun D i acc2 H' => Kp [] H5 H' ∧ TdA K H' acc2 (((setZ l n).take i).map Cd.dat)) (fun D H6 hD k6 => ⟨k6, .nil⟩) (fun D i acc2 H' _ ⟨k', _⟩ => SqL.of (k'.at_ e5 List.not_mem_nil)) (fun D i x acc2 H6 nD hx eD ⟨k6, t6⟩ => ?_) (fun D acc2 H6 nD eD ⟨k6, t6⟩ => ?_)
  · obtain ⟨Tp, x1, y1, rfl, hx1, hy1, sT⟩ := prd i x hx
    have hi : i < n := by
      have := (List.getElem?_eq_some_iff.mp hx).1
      omega
    unfold vI at hx1 hy1
    rw [List.getElem?_map] at hx1 hy1
    obtain ⟨pl, hpl, rfl⟩ := Option.map_eq_some_iff.mp hx1
    obtain ⟨sz, hsz, rfl⟩ := Option.map_eq_some_iff.mp hy1
    have hg : (setZ l n)[i]? = some (toldC R pl sz) := by
      rw [hset, List.getElem?_zipWith, hpl, hsz]
    have et : ((setZ l n).take (i + 1)).map Cd.dat = ((setZ l n).take i).map Cd.dat ++ [(toldC R pl sz).dat] := by
      rw [List.take_add_one, hg, List.map_append]
      rfl
    have sT6 := k6.sqT sT
    have la := t6.length
    rw [List.length_map, List.length_take, lset] at la
    walk_at "gs"
    refine g_both (fun c => ?_) (fun c => ?_)
    · walk_at "gs"
      intro pp H7 npp k7 e7
      refine g_xEl (k7.at_ eD List.not_mem_nil) (by omega) fun H8 k8 e8 => ⟨Kp.step1 (k6.trans k7) k8 (.inr nD), ?_⟩
      rw [et]
      have hc : toldC R pl sz = (true, pl) := by
        unfold toldC
        rw [if_pos c]
      rw [hc]
      exact (k8.tdA (k7.tdA t6)).app (.cons (.tup (k8.sqT (SqT.of e7)) (.cons (.str _) (.cons (.int _) .nil))) .nil)
    · walk_at "gs"
      intro pp H7 npp k7 e7
      refine g_xEl (k7.at_ eD List.not_mem_nil) (by omega) fun H8 k8 e8 => ⟨Kp.step1 (k6.trans k7) k8 (.inr nD), ?_⟩
      rw [et]
      have hc : toldC R pl sz = (false, sz - 1 - pl) := by
        unfold toldC
        rw [if_neg c]
      rw [hc]
      exact (k8.tdA (k7.tdA t6)).app (.cons (.tup (k8.sqT (SqT.of e7)) (.cons (.str _) (.cons (.int _) .nil))) .nil)
  · rw [le, List.take_of_length_le (Nat.le_of_eq lset)] at t6
    walk_at "gs"
    intro pr H7 npr k7 e7
    exact k _ H7 (kk.trans (k6.trans k7)) (.tup (SqT.of e7) (k7.tdA t6))
end
abbrev s_line_of : Stmt := topS 56
abbrev n_line_of : List Str := ["step", "item"]
theorem sc_line_of : FnScope n_line_of ["step"] (defScope s_line_of) := ⟨rfl, rfl, rfl, by decide +kernel, rfl, by decide +kernel, by decide +kernel⟩
abbrev s_write : Stmt := topS 57
abbrev n_write : List Str := ["script", "lines", "step", "plain"]
theorem sc_write : FnScope n_write ["script"] (defScope s_write) := ⟨rfl, rfl, rfl, by decide +kernel, rfl, by decide +kernel, by decide +kernel⟩
section
variable {P : Program} {w : World} {K : PySem.W.Frag} {mg : Str → Option Value} {base : Heap} {f : Addr} {fd : FuncData}
theorem item_all (ws : List V) (h : ws.all (fun x => match x with | .str _ => true | .int i => decide (i.natAbs.log2 < 1920) | _ => false) = true) : ∀ x ∈ ws, ItemV x := fun x hx => by
  have := List.all_eq_true.mp h x hx
  cases x with
  | str z => exact .inl ⟨z, rfl⟩
  | int i => exact .inr ⟨i, rfl, by simpa using this⟩
  | _ => cases this
theorem ok_line_of (F : Fun K "line_of" "line_of" s_line_of f fd) (N : Nm mg) : FnOk P w K mg base CX0 1 f fd ["step"] (spLineOf K) := by
  have m_str := N.str
  refine F.ok sc_line_of (fun vs H Q E h => ?_) (fun cdv A outer s H vs Q E hr h => ?_)
  · obtain ⟨_, _, _, rfl, _⟩ := h
    rfl
  obtain ⟨v, st, n, rfl, tv, hn, ho, k⟩ := h
  refine ⟨_, (pss_one (ps_ret (pe_joinK pe_str (pe_lc (own := [("item", 1)]) (tt := tYes) (by rfl) sc_line_of.nd (pi_tupK (K := K) (pe_ifExp (pt_cmpR op_eq (pe_ix (ix_tupK (K := K)) (pv 0) pe_int (fun _ _ => rfl)) pe_str (nomark _)) (pe_slice (sl_tupAK (K := K)) (pv 0) po_none (po_some pe_int)) (pv 0))) (blkOk_by (own := [("item", 1)]) (N := n_line_of) (sc := defScope s_line_of) (by decide +kernel)) (fun _ _ _ _ _ => (pg_name (i := 1) sc_line_of.nd rfl (by first | exact Or.inl rfl | exact Or.inr rfl))) (fun _ _ _ _ _ => pts_nil) (fun _ _ _ _ _ => (pe_callTy call_str1 (by rfl) m_str (by decide +kernel) (pa_cons (pv 1) pa_nil))))))), ?_⟩
  try dsimp only [nox_K]
  walk_at "gs"
  refine g_tM1 ?_
  cases st with
  | pl p =>
    cases p with
    | turn wh b kd =>
      obtain ⟨t, rfl, ht⟩ := td_turn tv
      have h' : wh < n ∧ (b = -2 ∨ b = -1 ∨ b = 1 ∨ b = 2) := ho
      have n1 := num_log (i := (wh : Int)) (by omega) (by omega)
      have n2 := num_log (i := b) (by omega) (by omega)
      walk_at "gs"
      refine g_compT (xs := [V.str "turn", .int wh, .int b, .str kd.s]) (fun D i acc H' => Kp [] H H' ∧ acc = ([V.str "turn", .int wh, .int b, .str kd.s].take i).map fun x => V.str (sv x)) (fun D H1 nD k1 => ⟨k1, rfl⟩) (fun D i acc H' _ ⟨k1, _⟩ => k1.sqT (ht)) ?_ ?_
      · rintro D i x acc H' nD hx eD ⟨k1, rfl⟩
        have hxi : ItemV x := item_all ([V.str "turn", .int wh, .int b, .str kd.s]) (by simp only [List.all_cons, List.all_nil, Bool.and_true, Bool.true_and, n1, n2, decide_true, Bool.and_self]) x (List.mem_of_getElem? hx)
        walk_at "gs"
        refine g_str1 hxi ?_
        refine g_xEl eD (by simp; omega) fun H5 k5 e5 => ⟨Kp.step1 k1 k5 (.inr (by walk_at "no")), ?_⟩
        rw [List.take_add_one, hx, List.map_append]
        rfl
      · rintro D acc H' nD eD ⟨k1, rfl⟩
        rw [List.take_length] at eD
        refine g_joinL (ys := [V.str "turn", .int wh, .int b, .str kd.s].map sv) (SqL.of (by rw [List.map_map]; exact eD)) (words_sz (s := (.pl (.turn wh b kd))) hn ho) ?_
        exact k H' k1
    | set wh b =>
      obtain ⟨t, rfl, ht⟩ := td_set tv
      have h' : wh < n ∧ -2 ≤ b ∧ b ≤ 1 := ho
      have n1 := num_log (i := (wh : Int)) (by omega) (by omega)
      have n2 := num_log (i := b) (by omega) (by omega)
      walk_at "gs"
      refine g_compT (xs := [V.str "set", .int wh, .int b]) (fun D i acc H' => Kp [] H H' ∧ acc = ([V.str "set", .int wh, .int b].take i).map fun x => V.str (sv x)) (fun D H1 nD k1 => ⟨k1, rfl⟩) (fun D i acc H' _ ⟨k1, _⟩ => k1.sqT (ht)) ?_ ?_
      · rintro D i x acc H' nD hx eD ⟨k1, rfl⟩
        have hxi : ItemV x := item_all ([V.str "set", .int wh, .int b]) (by simp only [List.all_cons, List.all_nil, Bool.and_true, Bool.true_and, n1, n2, decide_true, Bool.and_self]) x (List.mem_of_getElem? hx)
        walk_at "gs"
        refine g_str1 hxi ?_
        refine g_xEl eD (by simp; omega) fun H5 k5 e5 => ⟨Kp.step1 k1 k5 (.inr (by walk_at "no")), ?_⟩
        rw [List.take_add_one, hx, List.map_append]
        rfl
      · rintro D acc H' nD eD ⟨k1, rfl⟩
        rw [List.take_length] at eD
        refine g_joinL (ys := [V.str "set", .int wh, .int b].map sv) (SqL.of (by rw [List.map_map]; exact eD)) (words_sz (s := (.pl (.set wh b))) hn ho) ?_
        exact k H' k1
  | alike a' b' f' g' =>
    obtain ⟨t, pf, pg, fs, gs_, rfl, ht, hf, tf, hg, tg⟩ := td_alike tv
    have h' : a' < b' ∧ b' < n ∧ _ := ho
    have n1 := num_log (i := (a' : Int)) (by omega) (by omega)
    have n2 := num_log (i := (b' : Int)) (by omega) (by omega)
    walk_at "gs"
    intro q H2 k2 s2
    replace s2 : SqT K H2 q [V.str "alike", .int a', .int b'] := s2
    walk_at "gs"
    refine g_compT (xs := [V.str "alike", .int a', .int b']) (fun D i acc H' => Kp [] H2 H' ∧ acc = ([V.str "alike", .int a', .int b'].take i).map fun x => V.str (sv x)) (fun D H1 nD k1 => ⟨k1, rfl⟩) (fun D i acc H' _ ⟨k1, _⟩ => k1.sqT s2) ?_ ?_
    · rintro D i x acc H' nD hx eD ⟨k1, rfl⟩
      have hxi : ItemV x := item_all ([V.str "alike", .int a', .int b']) (by simp only [List.all_cons, List.all_nil, Bool.and_true, Bool.true_and, n1, n2, decide_true, Bool.and_self]) x (List.mem_of_getElem? hx)
      walk_at "gs"
      refine g_str1 hxi ?_
      refine g_xEl eD (by simp; omega) fun H5 k5 e5 => ⟨Kp.step1 k1 k5 (.inr (by walk_at "no")), ?_⟩
      rw [List.take_add_one, hx, List.map_append]
      rfl
    · rintro D acc H' nD eD ⟨k1, rfl⟩
      rw [List.take_length] at eD
      refine g_joinL (ys := [V.str "alike", .int a', .int b'].map sv) (SqL.of (by rw [List.map_map]; exact eD)) (words_sz (s := (.alike a' b' f' g')) hn ho) ?_
      exact k H' (k2.trans k1)
theorem ok_write {C : Addr} (F : Fun K "write" "write" s_write f fd) (N : Nm mg) (T : ScT K C) (c_line_of : Cal CX0 P w K mg base 1 "line_of" (spLineOf K)) (g_ROOM : Gc mg "ROOM" (.str "  ")) : FnOk P w K mg base CX0 2 f fd ["script"] (spWrite K C) := by
  have m_str := N.str
  refine F.ok sc_write (fun vs H Q E h => ?_) (fun cdv A outer s H vs Q E hr h => ?_)
  · obtain ⟨_, _, _, rfl, _⟩ := h
    rfl
  obtain ⟨a, n, l, rfl, sc, k⟩ := h
  refine ⟨_, (pss_cons (ps_set (i := 1) sc_write.nd rfl (by first | exact Or.inl rfl | exact Or.inr rfl) (pe_lst (pa_cons (pe_op op_add_str pe_str (pe_callTy call_str_int (by rfl) m_str (by decide +kernel) (pa_cons (pe_fldK (K := K) (pv 0) rfl) pa_nil))) pa_nil)))
      (pss_cons (ps_for PassesOwn.never rfl (pi_tupK (K := K) (pe_fldK (K := K) (pv 0) rfl)) (pg_name (i := 2) sc_write.nd rfl (by first | exact Or.inl rfl | exact Or.inr rfl)) (pss_cons (ps_expr (pe_bm PySem.F.plainAttrs_list PySem.F.slot_list_append PySem.F.type_list_append mt_append (pv 1) (pa_cons (pe_c c_line_of hr (by first | decide | omega) (by rfl) (pa_cons (pv 2) pa_nil)) pa_nil)))
      (pss_one (ps_if (pt_cmpR op_eq (pe_ix (ix_tupK (K := K)) (pv 2) pe_int (fun _ _ => rfl)) pe_str (nomark _)) (pss_cons (ps_expr (pe_bm PySem.F.plainAttrs_list PySem.F.slot_list_extend PySem.F.type_list_extend mt_extend (pv 1) (pa_cons (pe_lc (own := [("plain", 3)]) (tt := tYes) (by rfl) sc_write.nd (pi_tupK (K := K) (pe_ix (ix_tupK (K := K)) (pv 2) pe_int (fun _ _ => rfl))) (blkOk_by (own := [("plain", 3)]) (N := n_write) (sc := defScope s_write) (by decide +kernel)) (fun _ _ _ _ _ => (pg_name (i := 3) sc_write.nd rfl (by first | exact Or.inl rfl | exact Or.inr rfl))) (fun _ _ _ _ _ => pts_nil) (fun _ _ _ _ _ => (pe_op op_add_str (pe_g (by rfl) g_ROOM) (pe_c c_line_of hr (by first | decide | omega) (by rfl) (pa_cons (pv 3) pa_nil))))) pa_nil)))
      (pss_cons (ps_expr (pe_bm PySem.F.plainAttrs_list PySem.F.slot_list_append PySem.F.type_list_append mt_append (pv 1) (pa_cons pe_str pa_nil)))
      (pss_one (ps_expr (pe_bm PySem.F.plainAttrs_list PySem.F.slot_list_extend PySem.F.type_list_extend mt_extend (pv 1) (pa_cons (pe_lc (own := [("plain", 3)]) (tt := tYes) (by rfl) sc_write.nd (pi_tupK (K := K) (pe_ix (ix_tupK (K := K)) (pv 2) pe_int (fun _ _ => rfl))) (blkOk_by (own := [("plain", 3)]) (N := n_write) (sc := defScope s_write) (by decide +kernel)) (fun _ _ _ _ _ => (pg_name (i := 3) sc_write.nd rfl (by first | exact Or.inl rfl | exact Or.inr rfl))) (fun _ _ _ _ _ => pts_nil) (fun _ _ _ _ _ => (pe_op op_add_str (pe_g (by rfl) g_ROOM) (pe_c c_line_of hr (by first | decide | omega) (by rfl) (pa_cons (pv 3) pa_nil))))) pa_nil)))))) pss_nil))))
      (pss_one (ps_ret (pe_joinK pe_str (pv 1)))))), ?_⟩
  try dsimp only [nox_K]
  have n1 := sc.n1
  have n3 := sc.n3
  have lo := sc.ok
  have hc := sc.cn
  walk_at "gs"
  refine ⟨_, rfl, num_log (by omega) (by omega), ?_⟩
  walk_at "gs"
  have hsl : (1000 : Nat) ≤ sizeLine := by decide
  have hw7 : ("wheels " : Str).length = 7 := by decide +kernel
  have hw5 := (wok_lok (num_wok (i := (n : Int)) (by omega) (by omega))).1.1
  refine ⟨_, _, rfl, rfl, by omega, ?_⟩
  walk_at "gs"
  intro q H1 nq k1 e1
  walk_at "gs"
  have sc1 := k1.scr sc List.not_mem_nil
  walk_at "gs"
  intro p xs st tt
  walk_at "gs"
  have hlen := tt.length
  rw [List.length_map] at hlen
  refine g_loopT (xs := xs) (fun i σ' H' => ∃ y2, σ' = [some (.ref a), some (.ref q), y2, none] ∧ H' q = some (.lst ((("wheels " ++ (toString (n : Int) : String) : Str) :: (l.take i).flatMap Stp.lines).map V.str)) ∧ Kp [] H H' ∧ Kp [q] H1 H') ⟨none, rfl, e1, by walk_at "k", by walk_at "k"⟩ (fun i σ' H' _ ⟨_, _, _, _, k'⟩ => k'.sqT st) ?_ ?_
  · rintro i x σ' H' hx ⟨y2, rfl, eL, k', k2'⟩
    have hi : i < l.length := by
      have := (List.getElem?_eq_some_iff.mp hx).1
      omega
    obtain ⟨x', hx', tx⟩ := (k2'.tdA tt).get (i := i) (d := l[i].dat) (by simp [hi])
    rw [hx] at hx'
    cases hx'
    have ok1 : l[i].ok n := lo _ (List.getElem_mem hi)
    have hfl : ((l.take i).flatMap Stp.lines).length ≤ 1000 := by
      have h1 := flat_len2 (l.take i)
      have e := cnts_app (l.take i) (l.drop i)
      rw [List.take_append_drop] at e
      omega
    have et : (l.take (i + 1)).flatMap Stp.lines = (l.take i).flatMap Stp.lines ++ l[i].lines := by
      rw [List.take_add_one, List.getElem?_eq_getElem hi, List.flatMap_append]
      simp
    have hcn : l[i].cnt ≤ 1000 := by
      have e := cnts_app (l.take (i + 1)) (l.drop (i + 1))
      rw [List.take_append_drop, List.take_add_one, List.getElem?_eq_getElem hi, cnts_app] at e
      simp [cnts] at e
      simp [cnts] at hc
      omega
    rw [et]
    generalize hW : ("wheels " ++ (toString (n : Int) : String) : Str) :: (l.take i).flatMap Stp.lines = W at eL
    have hWl : W.length ≤ 1001 := by rw [← hW, List.length_cons]; omega
    rw [show ("wheels " ++ (toString (n : Int) : String) : Str) :: ((l.take i).flatMap Stp.lines ++ l[i].lines) = W ++ l[i].lines by rw [← hW]; rfl]
    clear hW
    generalize l[i] = stp at tx hcn ok1 ⊢
    walk_at "gs"
    refine ap_lineOf (n := n) stp tx n3 ok1 fun H2 k2 => ?_
    walk_at "gs"
    refine g_append (k2.at_ eL List.not_mem_nil) (by rw [List.length_map]; omega) fun H3 k3 e3 => ?_
    have tx3 := k3.td (k2.td tx)
    walk_at "gs"
    cases stp with
    | pl p' =>
      have fin : Hp → Prop := fun _ => True
      cases p' with
      | turn wh b kd =>
        obtain ⟨t, rfl, ht⟩ := td_turn tx3
        walk_at "gs"
        exact ⟨_, rfl, by rw [List.map_append]; exact e3, by walk_at "k", by walk_at "k"⟩
      | set wh b =>
        obtain ⟨t, rfl, ht⟩ := td_set tx3
        walk_at "gs"
        exact ⟨_, rfl, by rw [List.map_append]; exact e3, by walk_at "k", by walk_at "k"⟩
    | alike a' b' f' g' =>
      obtain ⟨t, pf, pg, fs, gs_, rfl, ht, hf, tf, hg, tg⟩ := td_alike tx3
      have l1 := tf.length
      have l2 := tg.length
      rw [List.length_map] at l1 l2
      have ok2 : a' < b' ∧ b' < n ∧ (∀ p ∈ f', p.ok n) ∧ ∀ p ∈ g', p.ok n := ok1
      simp only [Stp.cnt] at hcn
      have kk3 : Kp [] H H3 := by walk_at "k"
      have kq3 : Kp [q] H1 H3 := by walk_at "k"
      clear k2 k3 k' k2' eL tx
      walk_at "gs"
      refine g_compT (xs := fs) (fun D i acc H' => Kp [] H3 H' ∧ acc = (f'.take i).map fun p => V.str (plLine p)) (fun D H1 nD k1 => ⟨k1, rfl⟩) (fun D i acc H' _ ⟨k1, _⟩ => k1.sqT hf) (fun D i x acc H' nD hx eD hG => ?_) (fun D acc H' nD eD hG => ?_)
      · obtain ⟨k1, rfl⟩ := hG
        have hi : i < f'.length := by
          have := (List.getElem?_eq_some_iff.mp hx).1
          omega
        obtain ⟨x', hx', tx⟩ := (k1.tdA tf).get (i := i) (d := f'[i].dat) (by simp [hi])
        rw [hx] at hx'
        cases hx'
        have okp : f'[i].ok n := ok2.2.2.1 _ (List.getElem_mem hi)
        have et : f'.take (i + 1) = f'.take i ++ [f'[i]] := by rw [List.take_add_one, List.getElem?_eq_getElem hi]; rfl
        rw [et]
        generalize f'[i] = pp at tx okp
        walk_at "gs"
        refine ap_lineOf (n := n) (.pl pp) tx n3 okp fun H5 k5 => ?_
        have hll := (head_lok (s := .pl pp) n3 okp).1
        have hr2 : ("  " : Str).length = 2 := by decide +kernel
        walk_at "gs"
        refine ⟨_, _, rfl, rfl, by omega, ?_⟩
        refine g_xEl (k5.at_ eD List.not_mem_nil) (by rw [List.length_map, List.length_take]; omega) fun H6 k6 e6 => ⟨Kp.step1 (k1.trans k5) k6 (.inr (by walk_at "no")), ?_⟩
        rw [List.map_append]
        rfl
      · obtain ⟨k1, rfl⟩ := hG
        rw [show fs.length = f'.length by omega, List.take_length] at eD

        have e3' := k1.at_ e3 List.not_mem_nil
        walk_at "gs"
        refine g_extend e3' eD (by simp only [List.length_append, List.length_map, List.length_cons, List.length_nil]; omega) fun H4 k4 e4 => ?_
        have kk4 : Kp [] H H4 := Kp.step1 (kk3.trans k1) k4 (.inr nq)
        have kq4 : Kp [q] H1 H4 := (kq3.step0 k1).trans k4
        have ht4 := k4.sqT (k1.sqT ht)
        have hg4 := k4.sqT (k1.sqT hg)
        have tg4 := k4.tdA (k1.tdA tg)
        clear k1 k4 kk3 kq3 e3' e3 eD
        walk_at "gs"
        refine g_append e4 (by simp only [List.length_append, List.length_map, List.length_cons, List.length_nil]; omega) fun H5 k5 e5 => ?_
        have ht5 := k5.sqT ht4
        have hg5 := k5.sqT hg4
        have tg5 := k5.tdA tg4
        have kk5 : Kp [] H H5 := Kp.step1 kk4 k5 (.inr nq)
        have kq5 : Kp [q] H1 H5 := kq4.trans k5
        clear k5 kk4 kq4 e4 ht4 hg4 tg4
        walk_at "gs"
        refine g_compT (xs := gs_) (fun D i acc H' => Kp [] H5 H' ∧ acc = (g'.take i).map fun p => V.str (plLine p)) (fun D H1 nD k1 => ⟨k1, rfl⟩) (fun D i acc H' _ ⟨k1, _⟩ => k1.sqT hg5) (fun D i x acc H' nD hx eD hG => ?_) (fun D acc H' nD eD hG => ?_)
        · obtain ⟨k1, rfl⟩ := hG
          have hi : i < g'.length := by
            have := (List.getElem?_eq_some_iff.mp hx).1
            omega
          obtain ⟨x', hx', tx⟩ := (k1.tdA tg5).get (i := i) (d := g'[i].dat) (by simp [hi])
          rw [hx] at hx'
          cases hx'
          have okp : g'[i].ok n := ok2.2.2.2 _ (List.getElem_mem hi)
          have et : g'.take (i + 1) = g'.take i ++ [g'[i]] := by rw [List.take_add_one, List.getElem?_eq_getElem hi]; rfl
          rw [et]
          generalize g'[i] = pp at tx okp
          walk_at "gs"
          refine ap_lineOf (n := n) (.pl pp) tx n3 okp fun H5 k5 => ?_
          have hll := (head_lok (s := .pl pp) n3 okp).1
          have hr2 : ("  " : Str).length = 2 := by decide +kernel
          walk_at "gs"
          refine ⟨_, _, rfl, rfl, by omega, ?_⟩
          refine g_xEl (k5.at_ eD List.not_mem_nil) (by rw [List.length_map, List.length_take]; omega) fun H6 k6 e6 => ⟨Kp.step1 (k1.trans k5) k6 (.inr (by walk_at "no")), ?_⟩
          rw [List.map_append]
          rfl
        · obtain ⟨k1, rfl⟩ := hG
          rw [show gs_.length = g'.length by omega, List.take_length] at eD

          have e5' := k1.at_ e5 List.not_mem_nil
          walk_at "gs"
          refine g_extend e5' eD (by simp only [List.length_append, List.length_map, List.length_cons, List.length_nil]; omega) fun H6 k6 e6 => ?_
          walk_at "gs"
          refine ⟨_, rfl, ?_, Kp.step1 (kk5.trans k1) k6 (.inr nq), (kq5.step0 k1).trans k6⟩
          rw [e6]
          simp [Stp.lines, Stp.tail, Function.comp_def]
  · rintro σ' H' ⟨y2, rfl, eL, k', k2'⟩
    walk_at "gs"
    rw [hlen, List.take_length] at eL
    refine g_tM1 ?_
    walk_at "gs"
    refine g_joinL (ys := linesZ n l) (SqL.of eL) ?_ (k H' k')
    have b := sum_le (ps := linesZ n l) (m := 26) fun z hz => (linesZ_lok n1 n3 lo z hz).1
    have c := linesZ_len n l
    have e : ("\n" : Str).length = 1 := by decide +kernel
    rw [e]
    omega
end
abbrev s_law_answers : Stmt := topS 69
abbrev n_law_answers : List Str := ["_law_made", "_law_walk", "_law_found", "_law_single"]
theorem sc_law_answers : FnScope n_law_answers ["_law_made", "_law_walk"] (defScope s_law_answers) := ⟨rfl, rfl, rfl, by decide +kernel, rfl, by decide +kernel, by decide +kernel⟩
abbrev s_law : Stmt := topS 70
abbrev n_law : List Str := ["_law_script", "_law_h", "_law_steps_here", "_law_more", "_law_one", "_law_two", "_law_walk", "_law_other", "_law_k", "_law_first", "_law_known", "_law_found"]
theorem sc_law : FnScope n_law ["_law_script"] (defScope s_law) := ⟨rfl, rfl, rfl, by decide +kernel, rfl, by decide +kernel, by decide +kernel⟩
def ansS (l : List Stp) (s : List Int) (log : List Stp) (m j : Nat) : List PyData := [dInts (shownZ [3, 4] l), dInts [(j : Int), (m : Int) - (j : Int)], dCds (setZ l 2), dOpt (everZ l 2 0 1), .str (textZ 2 l), dInts (shownZ s log)]
def ansD (l : List Stp) (s : List Int) (log : List Stp) (m j : Nat) : List (List PyData) :=
  [(traceZ [3, 4] l).map dInts, (needZ l 2).map PyData.int, (swapZ l 2).map PyData.int, (fitZ 5 2 l (dInts (shownZ [3, 4] l))).map dInts, log.map Stp.dat, ansS l s log m j]
/-- lists of the heap's own, with these contents -/
def AnsL (K : PySem.W.Frag) (H : Hp) : List Addr → List (List PyData) → Prop
  | [], [] => True
  | q :: qs, d :: ds => (∃ xs, H q = some (.lst xs) ∧ TdA K H xs d) ∧ AnsL K H qs ds
  | _, _ => False
section
variable {K : PySem.W.Frag} {H H' : Hp} {M : List Addr}
theorem Kp.ansL (k : Kp M H H') : ∀ {qs : List Addr} {ds : List (List PyData)}, AnsL K H qs ds → (∀ q ∈ qs, q ∉ M) → AnsL K H' qs ds
  | [], [], _, _ => trivial
  | [], _ :: _, h, _ => h.elim
  | _ :: _, [], h, _ => h.elim
  | q :: qs, d :: ds, ⟨⟨xs, e, t⟩, h⟩, n => ⟨⟨xs, k.at_ e (n q List.mem_cons_self), k.tdA t⟩, Kp.ansL k h fun y hy => n y (List.mem_cons_of_mem _ hy)⟩
theorem AnsL.len : ∀ {qs : List Addr} {ds : List (List PyData)}, AnsL K H qs ds → qs.length = ds.length
  | [], [], _ => rfl
  | [], _ :: _, h => h.elim
  | _ :: _, [], h => h.elim
  | _ :: _, _ :: _, h => by rw [List.length_cons, List.length_cons, AnsL.len h.2]
theorem AnsL.get : ∀ {qs : List Addr} {ds : List (List PyData)} {i : Nat} {q : Addr}, AnsL K H qs ds → qs[i]? = some q → ∃ xs d, ds[i]? = some d ∧ H q = some (.lst xs) ∧ TdA K H xs d
  | q :: qs, d :: ds, 0, _, ⟨⟨xs, e, t⟩, h⟩, hq => by
    cases hq
    exact ⟨xs, d, rfl, e, t⟩
  | q :: qs, d :: ds, i + 1, _, ⟨_, h⟩, hq => AnsL.get (i := i) h (by simpa using hq)
  | [], _, _, _, _, hq => by simp at hq
  | _ :: _, [], _, _, h, _ => h.elim
theorem AnsL.snoc : ∀ {qs : List Addr} {ds : List (List PyData)} {q : Addr} {d : List PyData} {xs : List V}, AnsL K H qs ds → H q = some (.lst xs) → TdA K H xs d → AnsL K H (qs ++ [q]) (ds ++ [d])
  | [], [], _, _, xs, _, e, t => ⟨⟨xs, e, t⟩, trivial⟩
  | [], _ :: _, _, _, _, h, _, _ => h.elim
  | _ :: _, [], _, _, _, h, _, _ => h.elim
  | _ :: _, _ :: _, _, _, _, h, e, t => ⟨h.1, AnsL.snoc h.2 e t⟩
theorem AnsL.dpA : ∀ {qs : List Addr} {ds : List (List PyData)}, AnsL K H qs ds → DpAll K H (qs.map V.ref) (ds.map PyData.list)
  | [], [], _ => .nil
  | [], _ :: _, h => h.elim
  | _ :: _, [], h => h.elim
  | _ :: _, _ :: _, ⟨⟨_, e, t⟩, h⟩ => .cons (.lst (SqL.of e) t.dp) (AnsL.dpA h)
end
theorem small_i {x : Int} (h1 : -1000000 ≤ x) (h2 : x ≤ 1000000) : (PyData.int x).weight ≤ 100 := wt_int (by
  have : (2 : Nat) ^ 100 > 2000000 := by decide
  omega)
theorem sm_of {z : List Int} (h : ∀ x ∈ z, -1000000 ≤ x ∧ x ≤ 1000000) : Sm z := fun x hx => by
  have := h x hx
  have : (2 : Nat) ^ 100 > 2000000 := by decide
  omega
theorem reach10 {n : Nat} {l : List Stp} (ho : StepsOk n l) (hc : cnts l ≤ 5) : reachZ l ≤ 100 := by
  have := reach_le ho
  omega
theorem ans_lay {l log : List Stp} {s : List Int} {m j : Nat} (ho : StepsOk 2 l) : ∀ d ∈ (ansD l s log m j).map PyData.list, Lay 4 d := by
  have hI : ∀ z : List Int, Lay 4 (.list (z.map PyData.int)) := fun z => Lay.mono (Lay.lst (k := 0) fun d hd => by
    obtain ⟨x, _, rfl⟩ := List.mem_map.mp hd
    exact Lay.int x) (by decide)
  have hR : ∀ zs : List (List Int), Lay 4 (.list (zs.map dInts)) := fun zs => Lay.mono (Lay.lst (k := 1) fun d hd => by
    obtain ⟨x, _, rfl⟩ := List.mem_map.mp hd
    exact lay_ints x) (by decide)
  have hS : Lay 4 (.list (ansS l s log m j)) := Lay.mono (Lay.lst (k := 2) fun d hd => by
    simp only [ansS, List.mem_cons, List.not_mem_nil, or_false] at hd
    rcases hd with rfl | rfl | rfl | rfl | rfl | rfl
    · exact (lay_ints _).mono (by decide)
    · exact (lay_ints _).mono (by decide)
    · refine Lay.tup fun d hd => ?_
      obtain ⟨c, _, rfl⟩ := List.mem_map.mp hd
      refine Lay.tup fun d hd => ?_
      simp only [List.mem_cons, List.not_mem_nil, or_false] at hd
      rcases hd with rfl | rfl
      · refine Lay.str ?_
        split <;> decide +kernel
      · exact Lay.int _
    · cases everZ l 2 0 1 with
      | none => exact ⟨rfl, by simp [dOpt, PyData.depth]⟩
      | some r => exact (lay_ints r).mono (by decide)
    · exact Lay.str (strOk_of (textZ_ok (by decide) (by decide) ho))
    · exact (lay_ints _).mono (by decide)) (by decide)
  intro d hd
  simp only [ansD, List.map_cons, List.map_nil, List.mem_cons, List.not_mem_nil, or_false] at hd
  rcases hd with rfl | rfl | rfl | rfl | rfl | rfl
  · exact hR _
  · exact hI _
  · exact hI _
  · exact hR _
  · refine Lay.lst fun d hd => ?_
    obtain ⟨x, _, rfl⟩ := List.mem_map.mp hd
    exact lay_st x
  · exact hS
theorem len_le_w : ∀ ds : List PyData, ds.length ≤ PyData.weightAll ds := weight_len
theorem ans_w {l log : List Stp} {s : List Int} {m j : Nat} (ho : StepsOk 2 l) (hc : cnts l ≤ 5) (hs : SzOk s) (sl : s.length = 2) (hs5 : ∀ x ∈ s, x ≤ 5) (hlo : StepsOk 2 log) (hlc : cnts log ≤ 20) (hm : m ≤ 10000) (hj : j ≤ m) : PyData.weightAll ((ansD l s log m j).map PyData.list) ≤ 50000 := by
  have so34 : SzOk [3, 4] := fun x hx => by
    have p : (10 : Int) ^ 30 = 1000000000000000000000000000000 := by decide
    simp only [List.mem_cons, List.not_mem_nil, or_false] at hx
    omega
  have ll := cnts_len l
  have w1 : (PyData.list ((traceZ [3, 4] l).map dInts)).weight ≤ 304 * (l.length + 1) := by
    have := w_rows (zs := traceZ [3, 4] l) (traceZ_mem so34 ho (by decide))
    rwa [traceZ_len] at this
  have w2 : (PyData.list ((needZ l 2).map PyData.int)).weight ≤ 101 * l.length :=
    Nat.le_trans (dList_w (sm_range _ (by omega))) (Nat.mul_le_mul_left _ (len_range _ _))
  have w3 : (PyData.list ((swapZ l 2).map PyData.int)).weight ≤ 101 * (l.length - 1) :=
    Nat.le_trans (dList_w (sm_range _ (by omega))) (Nat.mul_le_mul_left _ (len_range _ _))
  have w4 : (PyData.list ((fitZ 5 2 l (dInts (shownZ [3, 4] l))).map dInts)).weight ≤ 304 * 16 := by
    refine Nat.le_trans (w_rows (fit_mem (by decide) (by decide))) (Nat.mul_le_mul_left _ ?_)
    refine Nat.le_trans (List.length_filter_le _ _) ?_
    decide +kernel
  have w5 : (PyData.list (log.map Stp.dat)).weight ≤ 41 * cnts log := wt_sts (by decide) hlo
  have sm1 : ∀ (t : List Int) (k : List Stp), SzOk t → StepsOk t.length k → (dInts (shownZ t k)).weight ≤ 101 * t.length := fun t k h1 h2 => by
    have := dInts_w ((shownZ_ok h1 h2).sm h1)
    rwa [shownZ_len] at this
  have a1 : (dInts (shownZ [3, 4] l)).weight ≤ 202 := sm1 [3, 4] l so34 ho
  have a6 := sm1 s log hs (by rw [sl]; exact hlo)
  have a2 : (dInts [(j : Int), (m : Int) - (j : Int)]).weight ≤ 101 * 2 := dInts_w (sm_of fun x hx => by
    simp only [List.mem_cons, List.not_mem_nil, or_false] at hx
    omega)
  have hr := reach10 ho hc
  have a3 : (dCds (setZ l 2)).weight ≤ 1000 := by
    have hin := setZ_in ho
    have hle := setZ_len ho
    have t : ∀ b : Bool, (PyData.str (if b = true then ("low" : Str) else "high")).weight ≤ 10 := by decide +kernel
    have hc1 : ∀ c ∈ setZ l 2, (Cd.dat c).weight ≤ 200 := fun c hc => by
      have b := hin c hc
      have i1 := small_i (x := c.2) (by omega) (by omega)
      have t1 := t c.1
      simp only [Cd.dat, PyData.weight, PyData.weightAll] at *
      omega
    generalize setZ l 2 = z at hc1 hle
    match z, hc1, hle with
    | [c1, c2], hc1, _ =>
      have b1 := hc1 c1 (by simp)
      have b2 := hc1 c2 (by simp)
      simp only [dCds, List.map_cons, List.map_nil, PyData.weight, PyData.weightAll] at *
      omega
  have a4 : (dOpt (everZ l 2 0 1)).weight ≤ 1000 := find_small (n := 1) (bndZ_le (by decide) (by have := reach_le ho; omega)) (by decide)
  have a5 : (PyData.str (textZ 2 l)).weight ≤ 400 := wt_str _ (textZ_len (by decide) (by decide) ho hc)
  simp only [ansD, ansS, List.map_cons, List.map_nil, PyData.weightAll] at *
  simp only [PyData.weight, PyData.weightAll] at *
  omega
theorem ans_len {l log : List Stp} {s : List Int} {m j : Nat} (ho : StepsOk 2 l) (hc : cnts l ≤ 5) (hg : log.length ≤ 900) : ∀ d ∈ ansD l s log m j, d.length ≤ 1000 := by
  intro d hd
  have ll := cnts_len l
  simp only [ansD, List.mem_cons, List.not_mem_nil, or_false] at hd
  rcases hd with rfl | rfl | rfl | rfl | rfl | rfl
  · rw [List.length_map, traceZ_len]
    omega
  · rw [List.length_map]
    have := len_range (fun i => (partZ l (l.take i ++ l.drop (i + 1)) 2).isNone) l.length
    show (needZ l 2).length ≤ 1000
    unfold needZ
    omega
  · rw [List.length_map]
    have := len_range (fun i => (partZ l (exch l i) 2).isNone) (l.length - 1)
    show (swapZ l 2).length ≤ 1000
    unfold swapZ
    omega
  · rw [List.length_map]
    refine Nat.le_trans (List.length_filter_le _ _) ?_
    decide +kernel
  · rw [List.length_map]
    omega
  · simp [ansS]
section
variable {P : Program} {w : World} {K : PySem.W.Frag} {mg : Str → Option Value} {base : Heap} {f : Addr} {fd : FuncData}
def spAnswers (K : PySem.W.Frag) (C CW : Addr) : Sp := fun vs H Q _ => ∃ (a b : Addr) (l : List Stp) (ps : List Addr) (s : List Int) (log gone : List Stp), vs = [.ref a, .ref b] ∧ Scr K C H a 2 l ∧ Wlk K CW H b ps s log gone ∧ log.length ≤ 1000 ∧
  ∀ (p : Addr) (qs : List Addr) (m j : Nat) (H' : Hp), RF [3, 4] l (zeros 2) m j → m ≤ 10000 → Kp [] H H' → H' p = some (.lst (qs.map V.ref)) → H p = none → p ∉ qs → qs.Nodup → (∀ q ∈ qs, H q = none) → AnsL K H' qs (ansD l s log m j) → Q (.ref p) H'
theorem ok_law_answers {C CW : Addr} (F : Fun K "_law_answers" "_law_answers" s_law_answers f fd) (c_trace : Cal CX0 P w K mg base 7 "trace" (spTrace K C)) (c_needless : Cal CX0 P w K mg base 9 "needless" (spNeedless K C)) (c_swaps : Cal CX0 P w K mg base 9 "swaps" (spSwaps K C)) (c_fitting : Cal CX0 P w K mg base 7 "fitting" (spFitting K C)) (c_shown : Cal CX0 P w K mg base 7 "shown" (spShown K C))
    (c_rounds : Cal CX0 P w K mg base 7 "rounds" (spRounds K C)) (c_settled : Cal CX0 P w K mg base 7 "settled" (spSettled K C)) (c_ever : Cal CX0 P w K mg base 7 "ever" (spEver K C)) (c_write : Cal CX0 P w K mg base 2 "write" (spWrite K C)) (q_Walk_log : Prp CX0 P w K mg base 1 CW "log" (spWLog K CW)) (q_Walk_showing : Prp CX0 P w K mg base 1 CW "showing" (spWShowing K CW)) : FnOk P w K mg base CX0 10 f fd ["_law_made", "_law_walk"] (spAnswers K C CW) := by
  refine F.ok sc_law_answers (fun vs H Q E h => ?_) (fun cdv A outer s H0 vs Q E hr h => ?_)
  · obtain ⟨_, _, _, _, _, _, _, rfl, _⟩ := h
    rfl
  obtain ⟨a, b, l, ps, s, log, gone, rfl, sc0, wk0, hlog, k⟩ := h
  refine ⟨_, (pss_cons (ps_set (i := 2) sc_law_answers.nd rfl (by first | exact Or.inl rfl | exact Or.inr rfl) (pe_lst (pa_cons (pe_c c_trace hr (by first | decide | omega) (by rfl) (pa_cons (pv 0) (pa_cons (pe_tup (pa_cons pe_int (pa_cons pe_int pa_nil))) pa_nil))) (pa_cons (pe_c c_needless hr (by first | decide | omega) (by rfl) (pa_cons (pv 0) pa_nil)) (pa_cons (pe_c c_swaps hr (by first | decide | omega) (by rfl) (pa_cons (pv 0) pa_nil)) pa_nil)))))
      (pss_cons (ps_set (i := 2) sc_law_answers.nd rfl (by first | exact Or.inl rfl | exact Or.inr rfl) (pe_op op_cat (pv 2) (pe_lst (pa_cons (pe_c c_fitting hr (by first | decide | omega) (by rfl) (pa_cons (pv 0) (pa_cons (pe_c c_shown hr (by first | decide | omega) (by rfl) (pa_cons (pv 0) (pa_cons (pe_tup (pa_cons pe_int (pa_cons pe_int pa_nil))) pa_nil))) (pa_cons pe_int pa_nil)))) (pa_cons (pe_pr q_Walk_log hr (by decide) (pv 1) rfl) pa_nil)))))
      (pss_cons (ps_set (i := 3) sc_law_answers.nd rfl (by first | exact Or.inl rfl | exact Or.inr rfl) (pe_lst (pa_cons (pe_c c_shown hr (by first | decide | omega) (by rfl) (pa_cons (pv 0) (pa_cons (pe_tup (pa_cons pe_int (pa_cons pe_int pa_nil))) pa_nil))) (pa_cons (pe_c c_rounds hr (by first | decide | omega) (by rfl) (pa_cons (pv 0) (pa_cons (pe_tup (pa_cons pe_int (pa_cons pe_int pa_nil))) pa_nil))) (pa_cons (pe_c c_settled hr (by first | decide | omega) (by rfl) (pa_cons (pv 0) pa_nil)) (pa_cons (pe_c c_ever hr (by first | decide | omega) (by rfl) (pa_cons (pv 0) (pa_cons pe_int (pa_cons pe_int pa_nil)))) pa_nil))))))
      (pss_one (ps_ret (pe_op op_cat (pv 2) (pe_lst (pa_cons (pe_op op_cat (pv 3) (pe_lst (pa_cons (pe_c c_write hr (by first | decide | omega) (by rfl) (pa_cons (pv 0) pa_nil)) (pa_cons (pe_pr q_Walk_showing hr (by decide) (pv 1) rfl) pa_nil)))) pa_nil)))))))), ?_⟩
  try dsimp only [nox_K]
  have so34 : SzOk [3, 4] := fun x hx => by
    have p : (10 : Int) ^ 30 = 1000000000000000000000000000000 := by decide
    simp only [List.mem_cons, List.not_mem_nil, or_false] at hx
    omega
  have rows5 : ∀ i, i ≤ 2 → (rowsZ 5 i).length ≤ 100000 := fun i h => by
    rcases (by omega : i = 0 ∨ i = 1 ∨ i = 2) with rfl | rfl | rfl <;> decide +kernel
  walk_at "gs"
  intro p1 H1 np1 k1 e1
  walk_at "gs"
  have sc0_1 := (k1.scr sc0 List.not_mem_nil)
  refine ap_trace (s := [3, 4]) sc0_1 (SqT.of e1) rfl so34 fun q2 ws2 H2 nq2 k2 e2 t2 => ?_
  walk_at "gs"
  have sc0_2 := (k2.scr sc0_1 List.not_mem_nil)
  refine ⟨a, 2, l, rfl, sc0_2, fun q3 H3 nq3 k3 e3 => ?_⟩
  walk_at "gs"
  have sc0_3 := (k3.scr sc0_2 List.not_mem_nil)
  refine ⟨a, 2, l, rfl, sc0_3, fun q4 H4 nq4 k4 e4 => ?_⟩
  walk_at "gs"
  intro p5 H5 np5 k5 e5
  walk_at "gs"
  intro p6 H6 np6 k6 e6
  walk_at "gs"
  have sc0_6 := (k6.scr (k5.scr (k4.scr sc0_3 List.not_mem_nil) List.not_mem_nil) List.not_mem_nil)
  refine ap_shown (s := [3, 4]) sc0_6 (SqT.of e6) rfl so34 fun q7 H7 k7 s7 => ?_
  walk_at "gs"
  have sc0_7 := (k7.scr sc0_6 List.not_mem_nil)
  refine ap_fitting (b := 5) (d := dInts (shownZ [3, 4] l)) sc0_7 (Td.vI s7).dp (fun ds e => by cases e; rw [List.length_map, shownZ_len]; decide) (dInts_s _) (by decide) (by decide) rows5 fun q8 ws8 H8 nq8 k8 e8 t8 => ?_
  rw [if_pos (showD_ints _)] at t8
  walk_at "gs"
  have wk0_8 := (k8.wlk (k7.wlk (k6.wlk (k5.wlk (k4.wlk (k3.wlk (k2.wlk (k1.wlk wk0 fun _ _ => List.not_mem_nil) fun _ _ => List.not_mem_nil) fun _ _ => List.not_mem_nil) fun _ _ => List.not_mem_nil) fun _ _ => List.not_mem_nil) fun _ _ => List.not_mem_nil) fun _ _ => List.not_mem_nil) fun _ _ => List.not_mem_nil)
  refine g_xPrW wk0_8 ?_
  refine ap_wlog wk0_8 hlog fun q9 ws9 H9 nq9 k9 e9 t9 => ?_
  walk_at "gs"
  intro p10 H10 np10 k10 e10
  walk_at "gs"
  have e5_10 := (k10.at_ (k9.at_ (k8.at_ (k7.at_ (k6.at_ e5 List.not_mem_nil) List.not_mem_nil) List.not_mem_nil) List.not_mem_nil) List.not_mem_nil)
  refine g_cat e5_10 e10 (by simp) fun p11 H11 np11 k11 e11 => ?_
  walk_at "gs"
  intro p12 H12 np12 k12 e12
  walk_at "gs"
  have sc0_12 := (k12.scr (k11.scr (k10.scr (k9.scr (k8.scr sc0_7 List.not_mem_nil) List.not_mem_nil) List.not_mem_nil) List.not_mem_nil) List.not_mem_nil)
  refine ap_shown (s := [3, 4]) sc0_12 (SqT.of e12) rfl so34 fun q13 H13 k13 s13 => ?_
  walk_at "gs"
  intro p14 H14 np14 k14 e14
  walk_at "gs"
  have sc0_14 := (k14.scr (k13.scr sc0_12 List.not_mem_nil) List.not_mem_nil)
  refine ⟨a, _, 2, l, [3, 4], rfl, sc0_14, SqT.of e14, rfl, so34, by decide +kernel, fun q15 mm jj H15 k15 rf hmm e15 => ?_⟩
  have s15 : SqT K _ _ _ := SqT.of e15
  walk_at "gs"
  have sc0_15 := (k15.scr sc0_14 List.not_mem_nil)
  refine ⟨a, 2, l, rfl, sc0_15, fun v16 H16 k16 t16 => ?_⟩
  walk_at "gs"
  have sc0_16 := (k16.scr sc0_15 List.not_mem_nil)
  refine ⟨a, 2, 0, l, 1, rfl, sc0_16, by decide, by decide, by decide, fun v17 H17 k17 t17 => ?_⟩
  walk_at "gs"
  intro p18 H18 np18 k18 e18
  walk_at "gs"
  have sc0_18 := (k18.scr (k17.scr sc0_16 List.not_mem_nil) List.not_mem_nil)
  refine ⟨a, 2, l, rfl, sc0_18, fun H19 k19 => ?_⟩
  walk_at "gs"
  have wk0_19 := (k19.wlk (k18.wlk (k17.wlk (k16.wlk (k15.wlk (k14.wlk (k13.wlk (k12.wlk (k11.wlk (k10.wlk (k9.wlk wk0_8 fun _ _ => List.not_mem_nil) fun _ _ => List.not_mem_nil) fun _ _ => List.not_mem_nil) fun _ _ => List.not_mem_nil) fun _ _ => List.not_mem_nil) fun _ _ => List.not_mem_nil) fun _ _ => List.not_mem_nil) fun _ _ => List.not_mem_nil) fun _ _ => List.not_mem_nil) fun _ _ => List.not_mem_nil) fun _ _ => List.not_mem_nil)
  refine g_xPrW wk0_19 ?_
  refine ap_wshowing wk0_19 fun q20 H20 k20 s20 => ?_
  walk_at "gs"
  intro p21 H21 np21 k21 e21
  walk_at "gs"
  have e18_21 := (k21.at_ (k20.at_ (k19.at_ e18 List.not_mem_nil) List.not_mem_nil) List.not_mem_nil)
  refine g_cat e18_21 e21 (by simp) fun q22 H22 nq22 k22 e22 => ?_
  walk_at "gs"
  intro p23 H23 np23 k23 e23
  walk_at "gs"
  have e11_23 := (k23.at_ (k22.at_ (k21.at_ (k20.at_ (k19.at_ (k18.at_ (k17.at_ (k16.at_ (k15.at_ (k14.at_ (k13.at_ (k12.at_ e11 List.not_mem_nil) List.not_mem_nil) List.not_mem_nil) List.not_mem_nil) List.not_mem_nil) List.not_mem_nil) List.not_mem_nil) List.not_mem_nil) List.not_mem_nil) List.not_mem_nil) List.not_mem_nil) List.not_mem_nil)
  refine g_cat e11_23 e23 (by simp) fun p24 H24 np24 k24 e24 => ?_
  walk_at "gs"
  have e2_24 := (k24.at_ (k23.at_ (k22.at_ (k21.at_ (k20.at_ (k19.at_ (k18.at_ (k17.at_ (k16.at_ (k15.at_ (k14.at_ (k13.at_ (k12.at_ (k11.at_ (k10.at_ (k9.at_ (k8.at_ (k7.at_ (k6.at_ (k5.at_ (k4.at_ (k3.at_ e2 List.not_mem_nil) List.not_mem_nil) List.not_mem_nil) List.not_mem_nil) List.not_mem_nil) List.not_mem_nil) List.not_mem_nil) List.not_mem_nil) List.not_mem_nil) List.not_mem_nil) List.not_mem_nil) List.not_mem_nil) List.not_mem_nil) List.not_mem_nil) List.not_mem_nil) List.not_mem_nil) List.not_mem_nil) List.not_mem_nil) List.not_mem_nil) List.not_mem_nil) List.not_mem_nil) List.not_mem_nil)
  have e3_24 := (k24.at_ (k23.at_ (k22.at_ (k21.at_ (k20.at_ (k19.at_ (k18.at_ (k17.at_ (k16.at_ (k15.at_ (k14.at_ (k13.at_ (k12.at_ (k11.at_ (k10.at_ (k9.at_ (k8.at_ (k7.at_ (k6.at_ (k5.at_ (k4.at_ e3 List.not_mem_nil) List.not_mem_nil) List.not_mem_nil) List.not_mem_nil) List.not_mem_nil) List.not_mem_nil) List.not_mem_nil) List.not_mem_nil) List.not_mem_nil) List.not_mem_nil) List.not_mem_nil) List.not_mem_nil) List.not_mem_nil) List.not_mem_nil) List.not_mem_nil) List.not_mem_nil) List.not_mem_nil) List.not_mem_nil) List.not_mem_nil) List.not_mem_nil) List.not_mem_nil)
  have e4_24 := (k24.at_ (k23.at_ (k22.at_ (k21.at_ (k20.at_ (k19.at_ (k18.at_ (k17.at_ (k16.at_ (k15.at_ (k14.at_ (k13.at_ (k12.at_ (k11.at_ (k10.at_ (k9.at_ (k8.at_ (k7.at_ (k6.at_ (k5.at_ e4 List.not_mem_nil) List.not_mem_nil) List.not_mem_nil) List.not_mem_nil) List.not_mem_nil) List.not_mem_nil) List.not_mem_nil) List.not_mem_nil) List.not_mem_nil) List.not_mem_nil) List.not_mem_nil) List.not_mem_nil) List.not_mem_nil) List.not_mem_nil) List.not_mem_nil) List.not_mem_nil) List.not_mem_nil) List.not_mem_nil) List.not_mem_nil) List.not_mem_nil)
  have e8_24 := (k24.at_ (k23.at_ (k22.at_ (k21.at_ (k20.at_ (k19.at_ (k18.at_ (k17.at_ (k16.at_ (k15.at_ (k14.at_ (k13.at_ (k12.at_ (k11.at_ (k10.at_ (k9.at_ e8 List.not_mem_nil) List.not_mem_nil) List.not_mem_nil) List.not_mem_nil) List.not_mem_nil) List.not_mem_nil) List.not_mem_nil) List.not_mem_nil) List.not_mem_nil) List.not_mem_nil) List.not_mem_nil) List.not_mem_nil) List.not_mem_nil) List.not_mem_nil) List.not_mem_nil) List.not_mem_nil)
  have e9_24 := (k24.at_ (k23.at_ (k22.at_ (k21.at_ (k20.at_ (k19.at_ (k18.at_ (k17.at_ (k16.at_ (k15.at_ (k14.at_ (k13.at_ (k12.at_ (k11.at_ (k10.at_ e9 List.not_mem_nil) List.not_mem_nil) List.not_mem_nil) List.not_mem_nil) List.not_mem_nil) List.not_mem_nil) List.not_mem_nil) List.not_mem_nil) List.not_mem_nil) List.not_mem_nil) List.not_mem_nil) List.not_mem_nil) List.not_mem_nil) List.not_mem_nil) List.not_mem_nil)
  have e22_24 := (k24.at_ (k23.at_ e22 List.not_mem_nil) List.not_mem_nil)
  have t2_24 := (k24.tdA (k23.tdA (k22.tdA (k21.tdA (k20.tdA (k19.tdA (k18.tdA (k17.tdA (k16.tdA (k15.tdA (k14.tdA (k13.tdA (k12.tdA (k11.tdA (k10.tdA (k9.tdA (k8.tdA (k7.tdA (k6.tdA (k5.tdA (k4.tdA (k3.tdA t2))))))))))))))))))))))
  have t8_24 := (k24.tdA (k23.tdA (k22.tdA (k21.tdA (k20.tdA (k19.tdA (k18.tdA (k17.tdA (k16.tdA (k15.tdA (k14.tdA (k13.tdA (k12.tdA (k11.tdA (k10.tdA (k9.tdA t8))))))))))))))))
  have t9_24 := (k24.tdA (k23.tdA (k22.tdA (k21.tdA (k20.tdA (k19.tdA (k18.tdA (k17.tdA (k16.tdA (k15.tdA (k14.tdA (k13.tdA (k12.tdA (k11.tdA (k10.tdA t9)))))))))))))))
  have s13_24 := (k24.sqT (k23.sqT (k22.sqT (k21.sqT (k20.sqT (k19.sqT (k18.sqT (k17.sqT (k16.sqT (k15.sqT (k14.sqT s13)))))))))))
  have s15_24 := (k24.sqT (k23.sqT (k22.sqT (k21.sqT (k20.sqT (k19.sqT (k18.sqT (k17.sqT (k16.sqT s15)))))))))
  have t16_24 := (k24.td (k23.td (k22.td (k21.td (k20.td (k19.td (k18.td (k17.td t16))))))))
  have t17_24 := (k24.td (k23.td (k22.td (k21.td (k20.td (k19.td (k18.td t17)))))))
  have s20_24 := (k24.sqT (k23.sqT (k22.sqT (k21.sqT s20))))
  have d2_3 : q2 ≠ q3 := ne_of_none e2 nq3
  have d2_4 : q2 ≠ q4 := ne_of_none (k3.at_ e2 List.not_mem_nil) nq4
  have d2_8 : q2 ≠ q8 := ne_of_none (k7.at_ (k6.at_ (k5.at_ (k4.at_ (k3.at_ e2 List.not_mem_nil) List.not_mem_nil) List.not_mem_nil) List.not_mem_nil) List.not_mem_nil) nq8
  have d2_9 : q2 ≠ q9 := ne_of_none (k8.at_ (k7.at_ (k6.at_ (k5.at_ (k4.at_ (k3.at_ e2 List.not_mem_nil) List.not_mem_nil) List.not_mem_nil) List.not_mem_nil) List.not_mem_nil) List.not_mem_nil) nq9
  have d2_22 : q2 ≠ q22 := ne_of_none (k21.at_ (k20.at_ (k19.at_ (k18.at_ (k17.at_ (k16.at_ (k15.at_ (k14.at_ (k13.at_ (k12.at_ (k11.at_ (k10.at_ (k9.at_ (k8.at_ (k7.at_ (k6.at_ (k5.at_ (k4.at_ (k3.at_ e2 List.not_mem_nil) List.not_mem_nil) List.not_mem_nil) List.not_mem_nil) List.not_mem_nil) List.not_mem_nil) List.not_mem_nil) List.not_mem_nil) List.not_mem_nil) List.not_mem_nil) List.not_mem_nil) List.not_mem_nil) List.not_mem_nil) List.not_mem_nil) List.not_mem_nil) List.not_mem_nil) List.not_mem_nil) List.not_mem_nil) List.not_mem_nil) nq22
  have dp_2 : q2 ≠ p24 := ne_of_none (k23.at_ (k22.at_ (k21.at_ (k20.at_ (k19.at_ (k18.at_ (k17.at_ (k16.at_ (k15.at_ (k14.at_ (k13.at_ (k12.at_ (k11.at_ (k10.at_ (k9.at_ (k8.at_ (k7.at_ (k6.at_ (k5.at_ (k4.at_ (k3.at_ e2 List.not_mem_nil) List.not_mem_nil) List.not_mem_nil) List.not_mem_nil) List.not_mem_nil) List.not_mem_nil) List.not_mem_nil) List.not_mem_nil) List.not_mem_nil) List.not_mem_nil) List.not_mem_nil) List.not_mem_nil) List.not_mem_nil) List.not_mem_nil) List.not_mem_nil) List.not_mem_nil) List.not_mem_nil) List.not_mem_nil) List.not_mem_nil) List.not_mem_nil) List.not_mem_nil) np24
  have d3_4 : q3 ≠ q4 := ne_of_none e3 nq4
  have d3_8 : q3 ≠ q8 := ne_of_none (k7.at_ (k6.at_ (k5.at_ (k4.at_ e3 List.not_mem_nil) List.not_mem_nil) List.not_mem_nil) List.not_mem_nil) nq8
  have d3_9 : q3 ≠ q9 := ne_of_none (k8.at_ (k7.at_ (k6.at_ (k5.at_ (k4.at_ e3 List.not_mem_nil) List.not_mem_nil) List.not_mem_nil) List.not_mem_nil) List.not_mem_nil) nq9
  have d3_22 : q3 ≠ q22 := ne_of_none (k21.at_ (k20.at_ (k19.at_ (k18.at_ (k17.at_ (k16.at_ (k15.at_ (k14.at_ (k13.at_ (k12.at_ (k11.at_ (k10.at_ (k9.at_ (k8.at_ (k7.at_ (k6.at_ (k5.at_ (k4.at_ e3 List.not_mem_nil) List.not_mem_nil) List.not_mem_nil) List.not_mem_nil) List.not_mem_nil) List.not_mem_nil) List.not_mem_nil) List.not_mem_nil) List.not_mem_nil) List.not_mem_nil) List.not_mem_nil) List.not_mem_nil) List.not_mem_nil) List.not_mem_nil) List.not_mem_nil) List.not_mem_nil) List.not_mem_nil) List.not_mem_nil) nq22
  have dp_3 : q3 ≠ p24 := ne_of_none (k23.at_ (k22.at_ (k21.at_ (k20.at_ (k19.at_ (k18.at_ (k17.at_ (k16.at_ (k15.at_ (k14.at_ (k13.at_ (k12.at_ (k11.at_ (k10.at_ (k9.at_ (k8.at_ (k7.at_ (k6.at_ (k5.at_ (k4.at_ e3 List.not_mem_nil) List.not_mem_nil) List.not_mem_nil) List.not_mem_nil) List.not_mem_nil) List.not_mem_nil) List.not_mem_nil) List.not_mem_nil) List.not_mem_nil) List.not_mem_nil) List.not_mem_nil) List.not_mem_nil) List.not_mem_nil) List.not_mem_nil) List.not_mem_nil) List.not_mem_nil) List.not_mem_nil) List.not_mem_nil) List.not_mem_nil) List.not_mem_nil) np24
  have d4_8 : q4 ≠ q8 := ne_of_none (k7.at_ (k6.at_ (k5.at_ e4 List.not_mem_nil) List.not_mem_nil) List.not_mem_nil) nq8
  have d4_9 : q4 ≠ q9 := ne_of_none (k8.at_ (k7.at_ (k6.at_ (k5.at_ e4 List.not_mem_nil) List.not_mem_nil) List.not_mem_nil) List.not_mem_nil) nq9
  have d4_22 : q4 ≠ q22 := ne_of_none (k21.at_ (k20.at_ (k19.at_ (k18.at_ (k17.at_ (k16.at_ (k15.at_ (k14.at_ (k13.at_ (k12.at_ (k11.at_ (k10.at_ (k9.at_ (k8.at_ (k7.at_ (k6.at_ (k5.at_ e4 List.not_mem_nil) List.not_mem_nil) List.not_mem_nil) List.not_mem_nil) List.not_mem_nil) List.not_mem_nil) List.not_mem_nil) List.not_mem_nil) List.not_mem_nil) List.not_mem_nil) List.not_mem_nil) List.not_mem_nil) List.not_mem_nil) List.not_mem_nil) List.not_mem_nil) List.not_mem_nil) List.not_mem_nil) nq22
  have dp_4 : q4 ≠ p24 := ne_of_none (k23.at_ (k22.at_ (k21.at_ (k20.at_ (k19.at_ (k18.at_ (k17.at_ (k16.at_ (k15.at_ (k14.at_ (k13.at_ (k12.at_ (k11.at_ (k10.at_ (k9.at_ (k8.at_ (k7.at_ (k6.at_ (k5.at_ e4 List.not_mem_nil) List.not_mem_nil) List.not_mem_nil) List.not_mem_nil) List.not_mem_nil) List.not_mem_nil) List.not_mem_nil) List.not_mem_nil) List.not_mem_nil) List.not_mem_nil) List.not_mem_nil) List.not_mem_nil) List.not_mem_nil) List.not_mem_nil) List.not_mem_nil) List.not_mem_nil) List.not_mem_nil) List.not_mem_nil) List.not_mem_nil) np24
  have d8_9 : q8 ≠ q9 := ne_of_none e8 nq9
  have d8_22 : q8 ≠ q22 := ne_of_none (k21.at_ (k20.at_ (k19.at_ (k18.at_ (k17.at_ (k16.at_ (k15.at_ (k14.at_ (k13.at_ (k12.at_ (k11.at_ (k10.at_ (k9.at_ e8 List.not_mem_nil) List.not_mem_nil) List.not_mem_nil) List.not_mem_nil) List.not_mem_nil) List.not_mem_nil) List.not_mem_nil) List.not_mem_nil) List.not_mem_nil) List.not_mem_nil) List.not_mem_nil) List.not_mem_nil) List.not_mem_nil) nq22
  have dp_8 : q8 ≠ p24 := ne_of_none (k23.at_ (k22.at_ (k21.at_ (k20.at_ (k19.at_ (k18.at_ (k17.at_ (k16.at_ (k15.at_ (k14.at_ (k13.at_ (k12.at_ (k11.at_ (k10.at_ (k9.at_ e8 List.not_mem_nil) List.not_mem_nil) List.not_mem_nil) List.not_mem_nil) List.not_mem_nil) List.not_mem_nil) List.not_mem_nil) List.not_mem_nil) List.not_mem_nil) List.not_mem_nil) List.not_mem_nil) List.not_mem_nil) List.not_mem_nil) List.not_mem_nil) List.not_mem_nil) np24
  have d9_22 : q9 ≠ q22 := ne_of_none (k21.at_ (k20.at_ (k19.at_ (k18.at_ (k17.at_ (k16.at_ (k15.at_ (k14.at_ (k13.at_ (k12.at_ (k11.at_ (k10.at_ e9 List.not_mem_nil) List.not_mem_nil) List.not_mem_nil) List.not_mem_nil) List.not_mem_nil) List.not_mem_nil) List.not_mem_nil) List.not_mem_nil) List.not_mem_nil) List.not_mem_nil) List.not_mem_nil) List.not_mem_nil) nq22
  have dp_9 : q9 ≠ p24 := ne_of_none (k23.at_ (k22.at_ (k21.at_ (k20.at_ (k19.at_ (k18.at_ (k17.at_ (k16.at_ (k15.at_ (k14.at_ (k13.at_ (k12.at_ (k11.at_ (k10.at_ e9 List.not_mem_nil) List.not_mem_nil) List.not_mem_nil) List.not_mem_nil) List.not_mem_nil) List.not_mem_nil) List.not_mem_nil) List.not_mem_nil) List.not_mem_nil) List.not_mem_nil) List.not_mem_nil) List.not_mem_nil) List.not_mem_nil) List.not_mem_nil) np24
  have dp_22 : q22 ≠ p24 := ne_of_none (k23.at_ e22 List.not_mem_nil) np24
  refine k p24 [q2, q3, q4, q8, q9, q22] mm jj H24 rf hmm (((((((((((((((((((((((k1.trans k2).trans k3).trans k4).trans k5).trans k6).trans k7).trans k8).trans k9).trans k10).trans k11).trans k12).trans k13).trans k14).trans k15).trans k16).trans k17).trans k18).trans k19).trans k20).trans k21).trans k22).trans k23).trans k24) e24 (((((((((((((((((((((((k1.trans k2).trans k3).trans k4).trans k5).trans k6).trans k7).trans k8).trans k9).trans k10).trans k11).trans k12).trans k13).trans k14).trans k15).trans k16).trans k17).trans k18).trans k19).trans k20).trans k21).trans k22).trans k23).none np24) ?_ ?_ ?_ ⟨⟨_, e2_24, t2_24⟩, ⟨_, e3_24, (TdA.vI _)⟩, ⟨_, e4_24, (TdA.vI _)⟩, ⟨_, e8_24, t8_24⟩, ⟨_, e9_24, t9_24⟩, ⟨_, e22_24, (.cons (Td.vI s13_24) (.cons (Td.vI s15_24) (.cons t16_24 (.cons t17_24 (.cons (.str _) (.cons (Td.vI s20_24) .nil))))))⟩, trivial⟩
  · simp only [List.mem_cons, List.not_mem_nil, or_false, not_or]
    exact ⟨dp_2.symm, dp_3.symm, dp_4.symm, dp_8.symm, dp_9.symm, dp_22.symm⟩
  · simp only [List.nodup_cons, List.mem_cons, List.not_mem_nil, or_false, not_or, not_false_eq_true, List.nodup_nil, and_true]
    exact ⟨⟨d2_3, d2_4, d2_8, d2_9, d2_22⟩, ⟨d3_4, d3_8, d3_9, d3_22⟩, ⟨d4_8, d4_9, d4_22⟩, ⟨d8_9, d8_22⟩, d9_22⟩
  · intro y hy
    simp only [List.mem_cons, List.not_mem_nil, or_false] at hy
    rcases hy with rfl | rfl | rfl | rfl | rfl | rfl
    · exact (k1.none nq2)
    · exact ((k1.trans k2).none nq3)
    · exact (((k1.trans k2).trans k3).none nq4)
    · exact (((((((k1.trans k2).trans k3).trans k4).trans k5).trans k6).trans k7).none nq8)
    · exact ((((((((k1.trans k2).trans k3).trans k4).trans k5).trans k6).trans k7).trans k8).none nq9)
    · exact (((((((((((((((((((((k1.trans k2).trans k3).trans k4).trans k5).trans k6).trans k7).trans k8).trans k9).trans k10).trans k11).trans k12).trans k13).trans k14).trans k15).trans k16).trans k17).trans k18).trans k19).trans k20).trans k21).none nq22)
theorem g_reverse {p : Addr} {xs : List V} {H : Hp} {Q : VK} (h : H p = some (.lst xs)) (k : ∀ H2, Kp [p] H H2 → H2 p = some (.lst xs.reverse) → Q .non H2) : rReverse (.ref p) [] H Q :=
  ⟨p, xs, rfl, rfl, h, k _ (Kp.write h) upd_same⟩
structure Two (K : PySem.W.Frag) (C CW : Addr) (H : Hp) (h q m1 m2 wa wb : Addr) (ps pt : List Addr) (s t : List Int) (l l2 log log2 : List Stp) (a b : Nat) : Prop where
  src : Src H h q
  s1 : Scr K C H m1 2 l
  s2 : Scr K C H m2 2 l2
  w1 : Wlk K CW H wa ps s log []
  w2 : Wlk K CW H wb pt t log2 []
  hm : m1 ≠ h ∧ m1 ≠ q ∧ m2 ≠ h ∧ m2 ≠ q
  d1 : ∀ x ∈ ps, x ≠ h ∧ x ≠ q ∧ x ≠ m1 ∧ x ≠ m2
  d2 : ∀ x ∈ pt, x ≠ h ∧ x ≠ q ∧ x ≠ m1 ∧ x ≠ m2
  dis : ∀ x ∈ ps, x ∉ pt
  c1 : cnts log ≤ a
  c2 : cnts log2 ≤ b
section
variable {C CW h q m1 m2 wa wb : Addr} {H Ha H' : Hp} {ps pt ps' : List Addr} {s t : List Int} {l l2 log log2 : List Stp} {a b : Nat} {st : Stp}
theorem Two.swap (w : Two K C CW H h q m1 m2 wa wb ps pt s t l l2 log log2 a b) : Two K C CW H h q m2 m1 wb wa pt ps t s l2 l log2 log b a :=
  ⟨w.src, w.s2, w.s1, w.w2, w.w1, ⟨w.hm.2.2.1, w.hm.2.2.2, w.hm.1, w.hm.2.1⟩, fun x hx => ⟨(w.d2 x hx).1, (w.d2 x hx).2.1, (w.d2 x hx).2.2.2, (w.d2 x hx).2.2.1⟩, fun x hx => ⟨(w.d1 x hx).1, (w.d1 x hx).2.1, (w.d1 x hx).2.2.2, (w.d1 x hx).2.2.1⟩, fun x hx hy => w.dis x hy hx, w.c2, w.c1⟩
theorem Two.k0 (w : Two K C CW H h q m1 m2 wa wb ps pt s t l l2 log log2 a b) (k : Kp [] H Ha) : Two K C CW Ha h q m1 m2 wa wb ps pt s t l l2 log log2 a b :=
  ⟨k.src w.src List.not_mem_nil List.not_mem_nil, k.scr w.s1 List.not_mem_nil, k.scr w.s2 List.not_mem_nil, k.wlk w.w1 (fun _ _ => List.not_mem_nil), k.wlk w.w2 (fun _ _ => List.not_mem_nil), w.hm, w.d1, w.d2, w.dis, w.c1, w.c2⟩
theorem Two.kS (w : Two K C CW H h q m1 m2 wa wb ps pt s t l l2 log log2 a b) (k : Kp [h, q] H Ha) (S : Src Ha h q) : Two K C CW Ha h q m1 m2 wa wb ps pt s t l l2 log log2 a b :=
  ⟨S, k.scr w.s1 (by simp [w.hm.1, w.hm.2.1]), k.scr w.s2 (by simp [w.hm.2.2.1, w.hm.2.2.2]), k.wlk w.w1 (fun x hx => by simp [(w.d1 x hx).1, (w.d1 x hx).2.1]), k.wlk w.w2 (fun x hx => by simp [(w.d2 x hx).1, (w.d2 x hx).2.1]), w.hm, w.d1, w.d2, w.dis, w.c1, w.c2⟩
theorem Two.did (w : Two K C CW H h q m1 m2 wa wb ps pt s t l l2 log log2 a b) (k : Kp ps H H') (hps : ∀ x ∈ ps', x ∈ ps ∨ H x = none) (w' : Wlk K CW H' wa ps' s (log ++ [st]) []) (hc : st.cnt ≤ 3) : Two K C CW H' h q m1 m2 wa wb ps' pt s t l l2 (log ++ [st]) log2 (a + 3) b := by
  have n1 : ∀ y, (y = h ∨ y = q ∨ y = m1 ∨ y = m2) → y ∉ ps := fun y hy hx => by
    have := w.d1 y hx
    rcases hy with rfl | rfl | rfl | rfl
    · exact this.1 rfl
    · exact this.2.1 rfl
    · exact this.2.2.1 rfl
    · exact this.2.2.2 rfl
  refine ⟨k.src w.src (n1 h (.inl rfl)) (n1 q (.inr (.inl rfl))), k.scr w.s1 (n1 m1 (.inr (.inr (.inl rfl)))), k.scr w.s2 (n1 m2 (.inr (.inr (.inr rfl)))), w', k.wlk w.w2 (fun x hx hy => w.dis x hy hx), w.hm, fun x hx => ?_, w.d2, fun x hx hy => ?_, ?_, w.c2⟩
  · rcases hps x hx with z | z
    · exact w.d1 x z
    · exact ⟨w.src.ne z, w.src.ne2 z, w.s1.ne z, w.s2.ne z⟩
  · rcases hps x hx with z | z
    · exact w.dis x z hy
    · exact w.w2.ne z hy
  · rw [cnts_app]
    have := w.c1
    simp only [cnts, List.map_cons, List.map_nil, List.sum_cons, List.sum_nil] at *
    omega
end
theorem ok_law {C CW : Addr} (F : Fun K "law" "law" s_law f fd) (N : Nm mg) (c_law_mix : Cal CX0 P w K mg base 1 "_law_mix" (spMix K)) (c_law_step : Cal CX0 P w K mg base 4 "_law_step" (spStep K)) (c_law_steps : Cal CX0 P w K mg base 5 "_law_steps" (spSteps K)) (c_law_alike : Cal CX0 P w K mg base 6 "_law_alike" (spAlike K 6))
    (k_Script : Mak CX0 P w K mg base 5 "Script" C (spInit K C)) (k_Walk : Mak CX0 P w K mg base 3 "Walk" CW (spWInit K CW)) (q_Walk_do : Met CX0 P w K mg base 6 CW "do" (spWDo K CW)) (c_law_answers : Cal CX0 P w K mg base 10 "_law_answers" (spAnswers K C CW)) (q_Script_steps : Prp CX0 P w K mg base 1 C "steps" (spSSteps K C)) : FnOk P w K mg base CX0 11 f fd ["_law_script"] (spLaw K) := by
  have m_range := N.range
  have m_list := N.list
  refine F.ok sc_law (fun vs H Q E h => ?_) (fun cdv A outer s H vs Q E hr h => ?_)
  · obtain ⟨_, _, rfl, _⟩ := h
    rfl
  obtain ⟨a, ns, rfl, hS, hl, k⟩ := h
  refine ⟨_, (pss_cons (ps_set (i := 1) sc_law.nd rfl (by first | exact Or.inl rfl | exact Or.inr rfl) (pe_c c_law_mix hr (by first | decide | omega) (by rfl) (pa_cons (pv 0) (pa_cons pe_int pa_nil))))
      (pss_cons (ps_par (i := 2) (j := 3) (by rfl) sc_law.nd rfl rfl (by decide) rfl rfl (pa_cons (pe_c c_law_steps hr (by first | decide | omega) (by rfl) (pa_cons (pv 1) (pa_cons pe_int (pa_cons pe_int pa_nil)))) (pa_cons (pe_c c_law_steps hr (by first | decide | omega) (by rfl) (pa_cons (pv 1) (pa_cons pe_int (pa_cons pe_int pa_nil)))) pa_nil)) (by rfl))
      (pss_cons (ps_par (i := 4) (j := 5) (by rfl) sc_law.nd rfl rfl (by decide) rfl rfl (pa_cons (pe_mk k_Script hr (by first | decide | omega) (by rfl) (pa_cons pe_int (pa_cons (pv 2) pa_nil))) (pa_cons (pe_mk k_Script hr (by first | decide | omega) (by rfl) (pa_cons pe_int (pa_cons (pv 3) pa_nil))) pa_nil)) (by rfl))
      (pss_cons (ps_par (i := 6) (j := 7) (by rfl) sc_law.nd rfl rfl (by decide) rfl rfl (pa_cons (pe_mk k_Walk hr (by first | decide | omega) (by rfl) (pa_cons (pe_tup (pa_cons pe_int (pa_cons pe_int pa_nil))) pa_nil)) (pa_cons (pe_mk k_Walk hr (by first | decide | omega) (by rfl) (pa_cons (pe_tup (pa_cons pe_int (pa_cons pe_int pa_nil))) pa_nil)) pa_nil)) (by rfl))
      (pss_cons (ps_for PassesOwn.never rfl (pi_range1 (by rfl) m_range (pa_cons pe_int pa_nil)) (pg_name (i := 8) sc_law.nd rfl (by first | exact Or.inl rfl | exact Or.inr rfl)) (pss_cons (ps_expr (pe_me q_Walk_do hr (by decide) (pv 6) (pa_cons (pe_c c_law_step hr (by first | decide | omega) (by rfl) (pa_cons (pv 1) (pa_cons pe_int pa_nil))) pa_nil)))
      (pss_one (ps_expr (pe_me q_Walk_do hr (by decide) (pv 7) (pa_cons (pe_c c_law_step hr (by first | decide | omega) (by rfl) (pa_cons (pv 1) (pa_cons pe_int pa_nil))) pa_nil))))))
      (pss_cons (ps_set (i := 9) sc_law.nd rfl (by first | exact Or.inl rfl | exact Or.inr rfl) (pe_c c_law_answers hr (by first | decide | omega) (by rfl) (pa_cons (pv 4) (pa_cons (pv 6) pa_nil))))
      (pss_cons (ps_setLc (i := 10) (own := [("_law_found", 11)]) (tt := tYes) (by rfl) sc_law.nd rfl rfl (sw_true rfl rfl rfl (by decide +kernel)) (pi_listK (K := K) (pv 9)) (blkOk_by (own := [("_law_found", 11)]) (N := n_law) (sc := defScope s_law) (by decide +kernel)) (fun _ _ _ _ _ => (pg_name (i := 11) sc_law.nd rfl (by first | exact Or.inl rfl | exact Or.inr rfl))) (fun _ _ _ _ _ => pts_nil) (fun _ _ _ _ _ => (pe_callTy (w_listK (K := K)) (by rfl) m_list (by decide +kernel) (pa_cons (pv 11) pa_nil))))
      (pss_cons (ps_for PassesOwn.never rfl (pi_listK (K := K) (pv 9)) (pg_name (i := 11) sc_law.nd rfl (by first | exact Or.inl rfl | exact Or.inr rfl)) (pss_cons (ps_expr (pe_bm PySem.F.plainAttrs_list PySem.F.slot_list_append PySem.F.type_list_append mt_append (pv 11) (pa_cons pe_str pa_nil)))
      (pss_one (ps_expr (pe_bm0 PySem.F.plainAttrs_list PySem.F.slot_list_reverse PySem.F.type_list_reverse mt_reverse (pv 11))))))
      (pss_cons (ps_expr (pe_c c_law_answers hr (by first | decide | omega) (by rfl) (pa_cons (pv 5) (pa_cons (pv 7) pa_nil))))
      (pss_one (ps_ret (pe_and (pe_c c_law_alike hr (by first | decide | omega) (by rfl) (pa_cons (pe_c c_law_answers hr (by first | decide | omega) (by rfl) (pa_cons (pv 4) (pa_cons (pv 6) pa_nil))) (pa_cons (pv 10) pa_nil))) (pe_one (pe_cmpR (op_eqDK (K := K) hr) (pe_pr q_Script_steps hr (by decide) (pv 4) rfl) (pv 2) (nomark _))))))))))))))), ?_⟩
  try dsimp only [nox_K]
  have szs : ∀ s : List Int, (∀ x ∈ s, 2 ≤ x ∧ x ≤ 5) → SzOk s := fun s hs x hx => by
    have := hs x hx
    have p : (10 : Int) ^ 30 = 1000000000000000000000000000000 := by decide
    omega
  have so34 : SzOk [3, 4] := szs _ (by decide)
  have so25 : SzOk [2, 5] := szs _ (by decide)
  walk_at "gs"
  refine ap_mix hS hl fun h q H1 nh nq k1 S1 => ?_
  walk_at "gs"
  refine ⟨h, q, 2, 4, rfl, S1, by decide, by decide, by decide, fun l v H3 lo lc lv k3 S3 => ?_⟩
  obtain ⟨t, xs, rfl, st, tt⟩ := lv.inv
  walk_at "gs"
  refine ⟨h, q, 2, 4, rfl, S3, by decide, by decide, by decide, fun l2 v H4 lo2 lc2 lv2 k4 S4 => ?_⟩
  obtain ⟨t2, xs2, rfl, st2, tt2⟩ := lv2.inv
  have st4 := k4.sqT st
  have tt4 := k4.tdA tt
  clear k1 k3 k4 S1 S3 st tt lv lv2
  walk_at "gs"
  refine ap_script (n := 2) (.tup st4 tt4) lo (by omega) (by decide) (by decide) fun m1 H5 nm1 k5 so1 => ?_
  walk_at "gs"
  refine ap_script (n := 2) (.tup (k5.sqT st2) (k5.tdA tt2)) lo2 (by omega) (by decide) (by decide) fun m2 H6 nm2 k6 so2 => ?_
  have lm1 : m1 ≠ h ∧ m1 ≠ q := ⟨S4.ne nm1, S4.ne2 nm1⟩
  have S5 : Src H5 h q := by walk_at "h"
  have lm2 : m2 ≠ h ∧ m2 ≠ q := ⟨S5.ne nm2, S5.ne2 nm2⟩
  have S6 : Src H6 h q := by walk_at "h"
  have so61 := k6.scr so1 List.not_mem_nil
  have st6 := k6.sqT (k5.sqT st4)
  have tt6 := k6.tdA (k5.tdA tt4)
  clear k5 k6 S4 S5 st4 tt4 st2 tt2 so1 nm1 nm2
  walk_at "gs"
  intro b1 H7 nb1 k7 e7
  walk_at "gs"
  refine ap_walk (s := [3, 4]) (SqT.of e7) so34 (by decide) (by decide) fun wa ps H8 k8 nps w8 => ?_
  walk_at "gs"
  intro b2 H9 nb2 k9 e9
  walk_at "gs"
  have w9 := k9.wlk w8 fun _ _ => List.not_mem_nil
  refine ap_walk (s := [2, 5]) (SqT.of e9) so25 (by decide) (by decide) fun wb pt H10 k10 npt w10 => ?_
  have S7 := k7.src S6 List.not_mem_nil List.not_mem_nil
  have sa7 := k7.scr so61 List.not_mem_nil
  have sb7 := k7.scr so2 List.not_mem_nil
  have S9 := k9.src (k8.src S7 List.not_mem_nil List.not_mem_nil) List.not_mem_nil List.not_mem_nil
  have sa9 := k9.scr (k8.scr sa7 List.not_mem_nil) List.not_mem_nil
  have sb9 := k9.scr (k8.scr sb7 List.not_mem_nil) List.not_mem_nil
  have st10 := k10.sqT (k9.sqT (k8.sqT (k7.sqT st6)))
  have tt10 := k10.tdA (k9.tdA (k8.tdA (k7.tdA tt6)))
  have tw10 : Two K C CW H10 h q m1 m2 wa wb ps pt [3, 4] [2, 5] l l2 [] [] (3 * 0) (3 * 0) :=
    ⟨k10.src S9 List.not_mem_nil List.not_mem_nil, k10.scr sa9 List.not_mem_nil, k10.scr sb9 List.not_mem_nil, k10.wlk w9 (fun _ _ => List.not_mem_nil), w10, ⟨lm1.1, lm1.2, lm2.1, lm2.2⟩,
      fun x hx => ⟨S7.ne (nps x hx), S7.ne2 (nps x hx), sa7.ne (nps x hx), sb7.ne (nps x hx)⟩, fun x hx => ⟨S9.ne (npt x hx), S9.ne2 (npt x hx), sa9.ne (npt x hx), sb9.ne (npt x hx)⟩,
      fun x hx hy => w9.ne (npt x hy) hx, by decide, by decide⟩
  clear k7 k8 k9 k10 e7 e9 w8 w9 w10 nps npt nb1 nb2 S6 S7 S9 sa7 sb7 sa9 sb9 so61 so2 st6 tt6 nh nq
  walk_at "gs"
  refine g_xRng1 (by decide) (by decide) ?_
  refine g_loopR (fun i σ' H' => ∃ ps pt log log2 y8, Two K C CW H' h q m1 m2 wa wb ps pt [3, 4] [2, 5] l l2 log log2 (3 * i) (3 * i) ∧ SqT K H' t xs ∧ TdA K H' xs (l.map Stp.dat) ∧ σ' = [some (.ref a), some (.ref h), some (.ref t), some (.ref t2), some (.ref m1), some (.ref m2), some (.ref wa), some (.ref wb), y8, none, none, none])
    ⟨ps, pt, [], [], _, tw10, st10, tt10, rfl⟩ (fun i σ' H' hi ⟨ps, pt, log, log2, y8, tw, stx, ttx, hσ⟩ => ?_) (fun σ' H' ⟨ps, pt, log, log2, y8, tw, stx, ttx, hσ⟩ => ?_)
  · subst hσ
    clear tw10 st10 tt10
    have hi3 : i < 3 := hi
    have z1 := cnts_len log
    have z2 := cnts_len log2
    have z3 := tw.c1
    have z4 := tw.c2
    walk_at "gs"
    refine g_xMeW tw.w1 (fun _ nm => nm.2.1) ?_
    walk_at "gs"
    refine ap_step (n := 2) tw.src (by decide) (by decide) fun s1 v1 Ha sok1 scn1 sv1 ka Sa => ?_
    have ta := tw.kS ka Sa
    have sta := ka.sqT stx
    have tta := ka.tdA ttx
    clear ka Sa stx ttx tw
    walk_at "gs"
    refine ap_wdo ta.w1 sv1 sok1 (by omega) (by omega) fun p1 ps1 Hb kb hps1 wb1 _ => ?_
    have tb := ta.did kb hps1 wb1 scn1
    have stb := kb.sqT sta
    have ttb := kb.tdA tta
    clear kb hps1 wb1 ta sta tta sv1
    walk_at "gs"
    refine g_xMeW tb.w2 (fun _ nm => nm.2.1) ?_
    walk_at "gs"
    refine ap_step (n := 2) tb.src (by decide) (by decide) fun s2 v2 Hc sok2 scn2 sv2 kc Sc => ?_
    have tc := tb.kS kc Sc
    have stc := kc.sqT stb
    have ttc := kc.tdA ttb
    clear kc Sc stb ttb tb
    walk_at "gs"
    refine ap_wdo tc.w2 sv2 sok2 (by omega) (by omega) fun p2 pt2 Hd kd hpt2 wd2 _ => ?_
    have td := (tc.swap.did kd hpt2 wd2 scn2).swap
    have std := kd.sqT stc
    have ttd := kd.tdA ttc
    clear kd hpt2 wd2 tc stc ttc sv2
    walk_at "gs"
    exact ⟨_, _, _, _, _, td, std, ttd, rfl⟩
  · subst hσ
    clear tw10 st10 tt10
    have z1 := cnts_len log
    have z2 := cnts_len log2
    have z3 := tw.c1
    have z4 := tw.c2
    walk_at "gs"
    refine ⟨m1, wa, l, ps, [3, 4], log, [], rfl, tw.s1, tw.w1, by omega, fun p1 qs1 m j H2 rf1 hm1 k2 e2 np1 npq1 nd1 fr1 A1 => ?_⟩
    have ds1 := A1.len
    walk_at "gs"
    refine g_compL (xs := qs1.map V.ref) (fun D i acc H' => Kp [] H2 H' ∧ ∃ rs : List Addr, acc = rs.map V.ref ∧ rs.length = i ∧ (∀ r ∈ rs, H2 r = none ∧ r ≠ D) ∧ AnsL K H' rs ((ansD l [3, 4] log m j).take i)) (fun D H1 hD k1 => ⟨k1, [], rfl, rfl, fun _ z => (nomatch z), trivial⟩) (fun D i acc H' _ ⟨k', _⟩ => SqL.of (k'.at_ e2 List.not_mem_nil)) (fun D i x acc H' hD hx eD ⟨k3, rs, ha, hl', hr', A3⟩ => ?_) (fun D acc H' hD eD ⟨k3, rs, ha, hl', hr', A3⟩ => ?_)
    · subst ha
      obtain ⟨q1, hq1, rfl⟩ : ∃ q1, qs1[i]? = some q1 ∧ V.ref q1 = x := by
        rw [List.getElem?_map] at hx
        cases hg : qs1[i]? with
        | none => rw [hg] at hx; cases hx
        | some y => rw [hg] at hx; exact ⟨y, rfl, Option.some.inj hx⟩
      obtain ⟨ws, d, hd, ew, tw'⟩ := A1.get hq1
      have ew3 := k3.at_ ew List.not_mem_nil
      have hil : i < (ansD l [3, 4] log m j).length := (List.getElem?_eq_some_iff.mp hd).1
      have hi6 : i < 6 := hil
      walk_at "gs"
      intro r H4 nr k4 e4
      have hrD : r ≠ D := (ne_of_none eD nr).symm
      refine g_xEl (k4.at_ eD List.not_mem_nil) (by rw [List.length_map]; omega) fun H5 k5 e5 => ⟨Kp.step1 (k3.trans k4) k5 (.inr hD), rs ++ [r], by rw [List.map_append]; rfl, by rw [List.length_append, hl']; rfl, fun y hy => ?_, ?_⟩
      · rcases List.mem_append.mp hy with z | z
        · exact hr' y z
        · rw [List.mem_singleton.mp z]
          exact ⟨k3.none nr, hrD⟩
      · rw [List.take_add_one, hd]
        refine AnsL.snoc (k5.ansL (k4.ansL A3 fun _ _ => List.not_mem_nil) fun y hy => by simp [(hr' y hy).2]) (k5.at_ e4 (by simp [hrD])) (k5.tdA (k4.tdA (k3.tdA tw')))
    · subst ha
      rw [List.length_map, ds1] at A3
      rw [List.take_of_length_le (Nat.le_refl _)] at A3
      have nq1 : ∀ r, H2 r = none → r ∉ qs1 := fun r hr hm => by
        obtain ⟨i, hi⟩ := List.getElem?_of_mem hm
        obtain ⟨_, _, _, e, _⟩ := A1.get hi
        rw [e] at hr
        cases hr
      have nDq : D ∉ qs1 := nq1 D hD
      have hnr : ∀ r ∈ rs, r ∉ qs1 := fun r hr => nq1 r (hr' r hr).1
      walk_at "gs"
      refine g_loopL (xs := qs1.map V.ref) (fun i σ' H4 => Kp qs1 H' H4 ∧ (∀ k q, i ≤ k → qs1[k]? = some q → ∃ xs, H4 q = some (.lst xs) ∧ xs.length ≤ 1000) ∧ ∃ y8 y11, σ' = [some (.ref a), some (.ref h), some (.ref t), some (.ref t2), some (.ref m1), some (.ref m2), some (.ref wa), some (.ref wb), y8, some (.ref p1), some (.ref D), y11])
        ⟨Kp.refl _, fun k q _ hq => ?_, _, _, rfl⟩ (fun i σ' H4 _ ⟨k4, _⟩ => SqL.of (k4.at_ (k3.at_ e2 List.not_mem_nil) npq1)) (fun i x σ' H4 hx ⟨k4, hk4, y8, y11, hσ⟩ => ?_) (fun σ' H4 ⟨k4, hk4, y8, y11, hσ⟩ => ?_)
      · obtain ⟨ws, d, hd, ew, tw'⟩ := A1.get hq
        refine ⟨ws, k3.at_ ew List.not_mem_nil, ?_⟩
        rw [tw'.length]
        exact ans_len tw.s1.ok tw.s1.cn (by omega) d (List.mem_of_getElem? hd)
      · subst hσ
        obtain ⟨q1, hq1, rfl⟩ : ∃ q1, qs1[i]? = some q1 ∧ V.ref q1 = x := by
          rw [List.getElem?_map] at hx
          cases hg : qs1[i]? with
          | none => rw [hg] at hx; cases hx
          | some y => rw [hg] at hx; exact ⟨y, rfl, Option.some.inj hx⟩
        obtain ⟨ws, ew, wl⟩ := hk4 i q1 (Nat.le_refl _) hq1
        have hm1' : q1 ∈ qs1 := List.mem_of_getElem? hq1
        walk_at "gs"
        refine g_append ew (by omega) fun H5 k5 e5 => ?_
        walk_at "gs"
        refine g_reverse e5 fun H6 k6 e6 => ?_
        have k46 : Kp [q1] H4 H6 := k5.trans k6
        walk_at "gs"
        refine ⟨Kp.step1 k4 k46 (.inl hm1'), fun k' q' hk' hq' => ?_, _, _, rfl⟩
        obtain ⟨us, eu, ul⟩ := hk4 k' q' (by omega) hq'
        refine ⟨us, k46.at_ eu ?_, ul⟩
        simp only [List.mem_singleton]
        intro hc
        subst hc
        have hlt : i < qs1.length := (List.getElem?_eq_some_iff.mp hq1).1
        have := (List.getElem?_inj hlt nd1).mp (hq1.trans hq'.symm)
        omega
      · subst hσ
        have kb : Kp [] _ H4 := (k2.trans k3).step k4 fun x hx => .inr (fr1 x hx)
        have R4 := k4.ansL A3 hnr
        have eD4 := k4.at_ eD nDq
        have t4 := tw.k0 kb
        have st4 := kb.sqT stx
        have tt4 := kb.tdA ttx
        have lo4 := tw.s1.ok
        have lc4 := tw.s1.cn
        clear kb k2 k3 k4 A1 A3 e2 eD tw stx ttx hk4 hnr nq1 hr' npq1 fr1 np1
        walk_at "gs"
        refine ⟨m2, wb, l2, pt, [2, 5], log2, [], rfl, t4.s2, t4.w2, by omega, fun p3 qs3 m3 j3 H5 _ _ k5 _ _ _ _ _ _ => ?_⟩
        have t5 := t4.k0 k5
        have R5 := k5.ansL R4 fun _ _ => List.not_mem_nil
        have eD5 := k5.at_ eD4 List.not_mem_nil
        have st5 := k5.sqT st4
        have tt5 := k5.tdA tt4
        clear k5 t4 R4 eD4 st4 tt4
        walk_at "gs"
        refine ⟨m1, wa, l, ps, [3, 4], log, [], rfl, t5.s1, t5.w1, by omega, fun p6 qs6 m6 j6 H6 rf6 hm6 k6 e6 _ _ _ _ A6 => ?_⟩
        obtain ⟨rfl, rfl⟩ := RF.uniq rf6 rf1
        have R6 := k6.ansL R5 fun _ _ => List.not_mem_nil
        have eD6 := k6.at_ eD5 List.not_mem_nil
        have t6 := t5.k0 k6
        have st6 := k6.sqT st5
        have tt6 := k6.tdA tt5
        clear k6 t5 R5 eD5 st5 tt5
        walk_at "gs"
        have lay : Lay 5 (.list ((ansD l [3, 4] log m6 j6).map PyData.list)) := Lay.lst (ans_lay lo4)
        refine ap_alike (.list ((ansD l [3, 4] log m6 j6).map PyData.list)) (.lst (SqL.of e6) A6.dpA) (.lst (SqL.of eD6) R6.dpA) (lay.sh (by decide)) (Nat.lt_succ_of_le lay.2) ?_ fun H7 k7 => ?_
        · have := ans_w (m := m6) (j := j6) lo4 lc4 so34 rfl (by decide) t6.w1.ok (by omega) hm6 (Nat.le_of_lt rf6.2.1)
          simp only [PyData.weight]
          omega
        · have t7 := t6.k0 k7
          have st7 := k7.sqT st6
          have tt7 := k7.tdA tt6
          clear k7 t6 st6 tt6 R6 eD6 e6 A6
          obtain ⟨_, _, em, _⟩ := t7.s1.at_
          have s7 := t7.s1
          walk_at "gs"
          refine g_xPr em ⟨m1, 2, l, rfl, s7, fun p xs' s' t' => ?_⟩
          walk_at "gs"
          refine g_rEqDp (d := dSteps l) (e := dSteps l) (Td.tup s' t').dp (Td.tup st7 tt7).dp ((lay_steps l).sh (by decide)) ((lay_steps l).sh (by decide)) ?_
          rw [SeqAt.eqv_refl _ (lay_steps _).1]
          walk_at "gs"
          exact k _
end
theorem all_mk {P : Program} {w : World} {K : PySem.W.Frag} {h : Heap} {mg : Str → Option Value} {fa : Addr} (X : K.In h) (G : h.Ns mainGlobals mg) (hfa : mg "law" = some (.ref fa))
    {C : Addr} {CW : Addr} {f_law_next : Addr} {od_law_next an_law_next : Option Addr} {sl_law_next : Array (Option Value)} {oc_law_next kV_law_next dc_law_next pm_law_next cd_law_next ct_law_next : Value} {f_law_mix : Addr} {od_law_mix an_law_mix : Option Addr} {sl_law_mix : Array (Option Value)} {oc_law_mix kV_law_mix dc_law_mix pm_law_mix cd_law_mix ct_law_mix : Value} {f_law_pick : Addr} {od_law_pick an_law_pick : Option Addr} {sl_law_pick : Array (Option Value)} {oc_law_pick kV_law_pick dc_law_pick pm_law_pick cd_law_pick ct_law_pick : Value} {f_law_plain : Addr} {od_law_plain an_law_plain : Option Addr} {sl_law_plain : Array (Option Value)} {oc_law_plain kV_law_plain dc_law_plain pm_law_plain cd_law_plain ct_law_plain : Value} {f_law_step : Addr} {od_law_step an_law_step : Option Addr} {sl_law_step : Array (Option Value)} {oc_law_step kV_law_step dc_law_step pm_law_step cd_law_step ct_law_step : Value} {f_law_many : Addr} {od_law_many an_law_many : Option Addr} {sl_law_many : Array (Option Value)} {oc_law_many kV_law_many dc_law_many pm_law_many cd_law_many ct_law_many : Value} {f_law_steps : Addr} {od_law_steps an_law_steps : Option Addr} {sl_law_steps : Array (Option Value)} {oc_law_steps kV_law_steps dc_law_steps pm_law_steps cd_law_steps ct_law_steps : Value} {f_is_integer : Addr} {od_is_integer an_is_integer : Option Addr} {sl_is_integer : Array (Option Value)} {oc_is_integer kV_is_integer dc_is_integer pm_is_integer cd_is_integer ct_is_integer : Value} {f_is_plain : Addr} {od_is_plain an_is_plain : Option Addr} {sl_is_plain : Array (Option Value)} {oc_is_plain kV_is_plain dc_is_plain pm_is_plain cd_is_plain ct_is_plain : Value} {f_are_plain : Addr} {od_are_plain an_are_plain : Option Addr} {sl_are_plain : Array (Option Value)} {oc_are_plain kV_are_plain dc_are_plain pm_are_plain cd_are_plain ct_are_plain : Value} {f_is_step : Addr} {od_is_step an_is_step : Option Addr} {sl_is_step : Array (Option Value)} {oc_is_step kV_is_step dc_is_step pm_is_step cd_is_step ct_is_step : Value} {f_turned : Addr} {od_turned an_turned : Option Addr} {sl_turned : Array (Option Value)} {oc_turned kV_turned dc_turned pm_turned cd_turned ct_turned : Value} {f_ran : Addr} {od_ran an_ran : Option Addr} {sl_ran : Array (Option Value)} {oc_ran kV_ran dc_ran pm_ran cd_ran ct_ran : Value} {f_stepped : Addr} {od_stepped an_stepped : Option Addr} {sl_stepped : Array (Option Value)} {oc_stepped kV_stepped dc_stepped pm_stepped cd_stepped ct_stepped : Value} {f_all_plain : Addr} {od_all_plain an_all_plain : Option Addr} {sl_all_plain : Array (Option Value)} {oc_all_plain kV_all_plain dc_all_plain pm_all_plain cd_all_plain ct_all_plain : Value} {f_Script_init : Addr} {od_Script_init an_Script_init : Option Addr} {sl_Script_init : Array (Option Value)} {oc_Script_init kV_Script_init dc_Script_init pm_Script_init cd_Script_init ct_Script_init : Value} {f_first_of : Addr} {od_first_of an_first_of : Option Addr} {sl_first_of : Array (Option Value)} {oc_first_of kV_first_of dc_first_of pm_first_of cd_first_of ct_first_of : Value} {f_shown_by : Addr} {od_shown_by an_shown_by : Option Addr} {sl_shown_by : Array (Option Value)} {oc_shown_by kV_shown_by dc_shown_by pm_shown_by cd_shown_by ct_shown_by : Value} {f_law_alike : Addr} {od_law_alike an_law_alike : Option Addr} {sl_law_alike : Array (Option Value)} {oc_law_alike kV_law_alike dc_law_alike pm_law_alike cd_law_alike ct_law_alike : Value} {f_are_sizes : Addr} {od_are_sizes an_are_sizes : Option Addr} {sl_are_sizes : Array (Option Value)} {oc_are_sizes kV_are_sizes dc_are_sizes pm_are_sizes cd_are_sizes ct_are_sizes : Value} {f_check_sizes : Addr} {od_check_sizes an_check_sizes : Option Addr} {sl_check_sizes : Array (Option Value)} {oc_check_sizes kV_check_sizes dc_check_sizes pm_check_sizes cd_check_sizes ct_check_sizes : Value} {f_shown : Addr} {od_shown an_shown : Option Addr} {sl_shown : Array (Option Value)} {oc_shown kV_shown dc_shown pm_shown cd_shown ct_shown : Value} {f_trace : Addr} {od_trace an_trace : Option Addr} {sl_trace : Array (Option Value)} {oc_trace kV_trace dc_trace pm_trace cd_trace ct_trace : Value} {f_rows_from : Addr} {od_rows_from an_rows_from : Option Addr} {sl_rows_from : Array (Option Value)} {oc_rows_from kV_rows_from dc_rows_from pm_rows_from cd_rows_from ct_rows_from : Value} {f_rounds : Addr} {od_rounds an_rounds : Option Addr} {sl_rounds : Array (Option Value)} {oc_rounds kV_rounds dc_rounds pm_rounds cd_rounds ct_rounds : Value} {f_reach_of : Addr} {od_reach_of an_reach_of : Option Addr} {sl_reach_of : Array (Option Value)} {oc_reach_of kV_reach_of dc_reach_of pm_reach_of cd_reach_of ct_reach_of : Value} {f_Script_reach : Addr} {od_Script_reach an_Script_reach : Option Addr} {sl_Script_reach : Array (Option Value)} {oc_Script_reach kV_Script_reach dc_Script_reach pm_Script_reach cd_Script_reach ct_Script_reach : Value} {p_Script_reach : Addr} {r_Script_reach : List Value} {f_bound_of : Addr} {od_bound_of an_bound_of : Option Addr} {sl_bound_of : Array (Option Value)} {oc_bound_of kV_bound_of dc_bound_of pm_bound_of cd_bound_of ct_bound_of : Value} {f_sizes_with : Addr} {od_sizes_with an_sizes_with : Option Addr} {sl_sizes_with : Array (Option Value)} {oc_sizes_with kV_sizes_with dc_sizes_with pm_sizes_with cd_sizes_with ct_sizes_with : Value} {f_check_wheel : Addr} {od_check_wheel an_check_wheel : Option Addr} {sl_check_wheel : Array (Option Value)} {oc_check_wheel kV_check_wheel dc_check_wheel pm_check_wheel cd_check_wheel ct_check_wheel : Value} {f_ever : Addr} {od_ever an_ever : Option Addr} {sl_ever : Array (Option Value)} {oc_ever kV_ever dc_ever pm_ever cd_ever ct_ever : Value} {f_parting_by : Addr} {od_parting_by an_parting_by : Option Addr} {sl_parting_by : Array (Option Value)} {oc_parting_by kV_parting_by dc_parting_by pm_parting_by cd_parting_by ct_parting_by : Value} {f_is_same : Addr} {od_is_same an_is_same : Option Addr} {sl_is_same : Array (Option Value)} {oc_is_same kV_is_same dc_is_same pm_is_same cd_is_same ct_is_same : Value} {f_needless : Addr} {od_needless an_needless : Option Addr} {sl_needless : Array (Option Value)} {oc_needless kV_needless dc_needless pm_needless cd_needless ct_needless : Value} {f_swaps : Addr} {od_swaps an_swaps : Option Addr} {sl_swaps : Array (Option Value)} {oc_swaps kV_swaps dc_swaps pm_swaps cd_swaps ct_swaps : Value} {f_settled : Addr} {od_settled an_settled : Option Addr} {sl_settled : Array (Option Value)} {oc_settled kV_settled dc_settled pm_settled cd_settled ct_settled : Value} {f_sizes_to : Addr} {od_sizes_to an_sizes_to : Option Addr} {sl_sizes_to : Array (Option Value)} {oc_sizes_to kV_sizes_to dc_sizes_to pm_sizes_to cd_sizes_to ct_sizes_to : Value} {f_is_showing : Addr} {od_is_showing an_is_showing : Option Addr} {sl_is_showing : Array (Option Value)} {oc_is_showing kV_is_showing dc_is_showing pm_is_showing cd_is_showing ct_is_showing : Value} {f_fitting : Addr} {od_fitting an_fitting : Option Addr} {sl_fitting : Array (Option Value)} {oc_fitting kV_fitting dc_fitting pm_fitting cd_fitting ct_fitting : Value} {f_Walk_init : Addr} {od_Walk_init an_Walk_init : Option Addr} {sl_Walk_init : Array (Option Value)} {oc_Walk_init kV_Walk_init dc_Walk_init pm_Walk_init cd_Walk_init ct_Walk_init : Value} {f_Walk_go : Addr} {od_Walk_go an_Walk_go : Option Addr} {sl_Walk_go : Array (Option Value)} {oc_Walk_go kV_Walk_go dc_Walk_go pm_Walk_go cd_Walk_go ct_Walk_go : Value} {f_Walk_do : Addr} {od_Walk_do an_Walk_do : Option Addr} {sl_Walk_do : Array (Option Value)} {oc_Walk_do kV_Walk_do dc_Walk_do pm_Walk_do cd_Walk_do ct_Walk_do : Value} {f_Walk_showing : Addr} {od_Walk_showing an_Walk_showing : Option Addr} {sl_Walk_showing : Array (Option Value)} {oc_Walk_showing kV_Walk_showing dc_Walk_showing pm_Walk_showing cd_Walk_showing ct_Walk_showing : Value} {p_Walk_showing : Addr} {r_Walk_showing : List Value} {f_Walk_log : Addr} {od_Walk_log an_Walk_log : Option Addr} {sl_Walk_log : Array (Option Value)} {oc_Walk_log kV_Walk_log dc_Walk_log pm_Walk_log cd_Walk_log ct_Walk_log : Value} {p_Walk_log : Addr} {r_Walk_log : List Value} {f_Script_steps : Addr} {od_Script_steps an_Script_steps : Option Addr} {sl_Script_steps : Array (Option Value)} {oc_Script_steps kV_Script_steps dc_Script_steps pm_Script_steps cd_Script_steps ct_Script_steps : Value} {p_Script_steps : Addr} {r_Script_steps : List Value} {f_line_of : Addr} {od_line_of an_line_of : Option Addr} {sl_line_of : Array (Option Value)} {oc_line_of kV_line_of dc_line_of pm_line_of cd_line_of ct_line_of : Value} {f_write : Addr} {od_write an_write : Option Addr} {sl_write : Array (Option Value)} {oc_write kV_write dc_write pm_write cd_write ct_write : Value} {f_law_answers : Addr} {od_law_answers an_law_answers : Option Addr} {sl_law_answers : Array (Option Value)} {oc_law_answers kV_law_answers dc_law_answers pm_law_answers cd_law_answers ct_law_answers : Value} {f_law : Addr} {od_law an_law : Option Addr} {sl_law : Array (Option Value)} {oc_law kV_law dc_law pm_law cd_law ct_law : Value} {A_TURNS : Addr} {t1_TURNS t2_TURNS t3_TURNS t4_TURNS n_TURNS : Nat} {so_TURNS : Array (Option Value)} {oo_TURNS : Option Addr} {A_PLACES : Addr} {t1_PLACES t2_PLACES t3_PLACES t4_PLACES n_PLACES : Nat} {so_PLACES : Array (Option Value)} {oo_PLACES : Option Addr} {A_WORDS : Addr} {t1_WORDS t2_WORDS t3_WORDS n_WORDS : Nat} {so_WORDS : Array (Option Value)} {oo_WORDS : Option Addr} {A_TAKEN : Addr} {nT tT1 tT2 tT3 uT1 uT2 uT3 vT1 vT2 vT3 : Nat} {t_MOST_WHEELS : Nat} {t_MOST_STEPS : Nat} {t_LEAST_SIZE : Nat} {t_MOST_SIZE : Nat} {t_MOST_BOUND : Nat} {t_MOST_ASKED : Nat} {t_ROOM : Nat}
    (z_len : PySem.W.nsIn K mainGlobals "len" = some none)
    (z_range : PySem.W.nsIn K mainGlobals "range" = some none)
    (z_max : PySem.W.nsIn K mainGlobals "max" = some none)
    (z_min : PySem.W.nsIn K mainGlobals "min" = some none)
    (z_int : PySem.W.nsIn K mainGlobals "int" = some none)
    (z_bool : PySem.W.nsIn K mainGlobals "bool" = some none)
    (z_str : PySem.W.nsIn K mainGlobals "str" = some none)
    (z_list : PySem.W.nsIn K mainGlobals "list" = some none)
    (z_tuple : PySem.W.nsIn K mainGlobals "tuple" = some none)
    (z_dict : PySem.W.nsIn K mainGlobals "dict" = some none)
    (z_set : PySem.W.nsIn K mainGlobals "set" = some none)
    (z_abs : PySem.W.nsIn K mainGlobals "abs" = some none)
    (z_sum : PySem.W.nsIn K mainGlobals "sum" = some none)
    (z_all : PySem.W.nsIn K mainGlobals "all" = some none)
    (z_any : PySem.W.nsIn K mainGlobals "any" = some none)
    (z_isinstance : PySem.W.nsIn K mainGlobals "isinstance" = some none)
    (z_zip : PySem.W.nsIn K mainGlobals "zip" = some none)
    (z_enumerate : PySem.W.nsIn K mainGlobals "enumerate" = some none)
    (z_sorted : PySem.W.nsIn K mainGlobals "sorted" = some none)
    (s_aC : PySem.W.nsIn K mainGlobals "Script" = some (some (.ref C)))
    (s_pg : PySem.W.plainGet K C Str.empty = true)
    (s_hd : PySem.W.hasDictIn K C = true)
    (s_po : PySem.W.plainOver K C = true)
    (s_sa : PySem.W.findIn K (.ref C) "__setattr__" = some (some (.builtin "object.__setattr__")))
    (s_mk : PySem.W.makesIn K C = true)
    (s_kc : PySem.W.keepIn K (.ref C) = true)
    (s_n0 : PySem.W.findIn K (.ref C) "many" = some none)
    (s_n1 : PySem.W.findIn K (.ref C) "rows" = some none)
    (w_aC : PySem.W.nsIn K mainGlobals "Walk" = some (some (.ref CW)))
    (w_pg : PySem.W.plainGet K CW Str.empty = true)
    (w_hd : PySem.W.hasDictIn K CW = true)
    (w_po : PySem.W.plainOver K CW = true)
    (w_sa : PySem.W.findIn K (.ref CW) "__setattr__" = some (some (.builtin "object.__setattr__")))
    (w_mk : PySem.W.makesIn K CW = true)
    (w_kc : PySem.W.keepIn K (.ref CW) = true)
    (w_n0 : PySem.W.findIn K (.ref CW) "wide" = some none)
    (w_n1 : PySem.W.findIn K (.ref CW) "rows" = some none)
    (w_n2 : PySem.W.findIn K (.ref CW) "steps_done" = some none)
    (w_n3 : PySem.W.findIn K (.ref CW) "undone" = some none)
    (a_law_next : PySem.W.nsIn K mainGlobals "_law_next" = some (some (.ref f_law_next)))
    (l_law_next : K.lookup f_law_next = some ⟨oc_law_next, od_law_next, .func (PySem.W.fnOf "_law_next" "_law_next" (defArgs s_law_next) (defBody s_law_next) (defScope s_law_next) .none kV_law_next dc_law_next pm_law_next an_law_next cd_law_next ct_law_next), sl_law_next⟩)
    (c_law_next : PySem.W.codeIn K cd_law_next "_law_next" = true)
    (k_law_next : PySem.W.keepIn K (.ref f_law_next) = true)
    (a_law_mix : PySem.W.nsIn K mainGlobals "_law_mix" = some (some (.ref f_law_mix)))
    (l_law_mix : K.lookup f_law_mix = some ⟨oc_law_mix, od_law_mix, .func (PySem.W.fnOf "_law_mix" "_law_mix" (defArgs s_law_mix) (defBody s_law_mix) (defScope s_law_mix) .none kV_law_mix dc_law_mix pm_law_mix an_law_mix cd_law_mix ct_law_mix), sl_law_mix⟩)
    (c_law_mix : PySem.W.codeIn K cd_law_mix "_law_mix" = true)
    (k_law_mix : PySem.W.keepIn K (.ref f_law_mix) = true)
    (a_law_pick : PySem.W.nsIn K mainGlobals "_law_pick" = some (some (.ref f_law_pick)))
    (l_law_pick : K.lookup f_law_pick = some ⟨oc_law_pick, od_law_pick, .func (PySem.W.fnOf "_law_pick" "_law_pick" (defArgs s_law_pick) (defBody s_law_pick) (defScope s_law_pick) .none kV_law_pick dc_law_pick pm_law_pick an_law_pick cd_law_pick ct_law_pick), sl_law_pick⟩)
    (c_law_pick : PySem.W.codeIn K cd_law_pick "_law_pick" = true)
    (k_law_pick : PySem.W.keepIn K (.ref f_law_pick) = true)
    (a_law_plain : PySem.W.nsIn K mainGlobals "_law_plain" = some (some (.ref f_law_plain)))
    (l_law_plain : K.lookup f_law_plain = some ⟨oc_law_plain, od_law_plain, .func (PySem.W.fnOf "_law_plain" "_law_plain" (defArgs s_law_plain) (defBody s_law_plain) (defScope s_law_plain) .none kV_law_plain dc_law_plain pm_law_plain an_law_plain cd_law_plain ct_law_plain), sl_law_plain⟩)
    (c_law_plain : PySem.W.codeIn K cd_law_plain "_law_plain" = true)
    (k_law_plain : PySem.W.keepIn K (.ref f_law_plain) = true)
    (a_law_step : PySem.W.nsIn K mainGlobals "_law_step" = some (some (.ref f_law_step)))
    (l_law_step : K.lookup f_law_step = some ⟨oc_law_step, od_law_step, .func (PySem.W.fnOf "_law_step" "_law_step" (defArgs s_law_step) (defBody s_law_step) (defScope s_law_step) .none kV_law_step dc_law_step pm_law_step an_law_step cd_law_step ct_law_step), sl_law_step⟩)
    (c_law_step : PySem.W.codeIn K cd_law_step "_law_step" = true)
    (k_law_step : PySem.W.keepIn K (.ref f_law_step) = true)
    (a_law_many : PySem.W.nsIn K mainGlobals "_law_many" = some (some (.ref f_law_many)))
    (l_law_many : K.lookup f_law_many = some ⟨oc_law_many, od_law_many, .func (PySem.W.fnOf "_law_many" "_law_many" (defArgs s_law_many) (defBody s_law_many) (defScope s_law_many) .none kV_law_many dc_law_many pm_law_many an_law_many cd_law_many ct_law_many), sl_law_many⟩)
    (c_law_many : PySem.W.codeIn K cd_law_many "_law_many" = true)
    (k_law_many : PySem.W.keepIn K (.ref f_law_many) = true)
    (a_law_steps : PySem.W.nsIn K mainGlobals "_law_steps" = some (some (.ref f_law_steps)))
    (l_law_steps : K.lookup f_law_steps = some ⟨oc_law_steps, od_law_steps, .func (PySem.W.fnOf "_law_steps" "_law_steps" (defArgs s_law_steps) (defBody s_law_steps) (defScope s_law_steps) .none kV_law_steps dc_law_steps pm_law_steps an_law_steps cd_law_steps ct_law_steps), sl_law_steps⟩)
    (c_law_steps : PySem.W.codeIn K cd_law_steps "_law_steps" = true)
    (k_law_steps : PySem.W.keepIn K (.ref f_law_steps) = true)
    (a_is_integer : PySem.W.nsIn K mainGlobals "is_integer" = some (some (.ref f_is_integer)))
    (l_is_integer : K.lookup f_is_integer = some ⟨oc_is_integer, od_is_integer, .func (PySem.W.fnOf "is_integer" "is_integer" (defArgs s_is_integer) (defBody s_is_integer) (defScope s_is_integer) .none kV_is_integer dc_is_integer pm_is_integer an_is_integer cd_is_integer ct_is_integer), sl_is_integer⟩)
    (c_is_integer : PySem.W.codeIn K cd_is_integer "is_integer" = true)
    (k_is_integer : PySem.W.keepIn K (.ref f_is_integer) = true)
    (a_is_plain : PySem.W.nsIn K mainGlobals "is_plain" = some (some (.ref f_is_plain)))
    (l_is_plain : K.lookup f_is_plain = some ⟨oc_is_plain, od_is_plain, .func (PySem.W.fnOf "is_plain" "is_plain" (defArgs s_is_plain) (defBody s_is_plain) (defScope s_is_plain) .none kV_is_plain dc_is_plain pm_is_plain an_is_plain cd_is_plain ct_is_plain), sl_is_plain⟩)
    (c_is_plain : PySem.W.codeIn K cd_is_plain "is_plain" = true)
    (k_is_plain : PySem.W.keepIn K (.ref f_is_plain) = true)
    (a_are_plain : PySem.W.nsIn K mainGlobals "are_plain" = some (some (.ref f_are_plain)))
    (l_are_plain : K.lookup f_are_plain = some ⟨oc_are_plain, od_are_plain, .func (PySem.W.fnOf "are_plain" "are_plain" (defArgs s_are_plain) (defBody s_are_plain) (defScope s_are_plain) .none kV_are_plain dc_are_plain pm_are_plain an_are_plain cd_are_plain ct_are_plain), sl_are_plain⟩)
    (c_are_plain : PySem.W.codeIn K cd_are_plain "are_plain" = true)
    (k_are_plain : PySem.W.keepIn K (.ref f_are_plain) = true)
    (a_is_step : PySem.W.nsIn K mainGlobals "is_step" = some (some (.ref f_is_step)))
    (l_is_step : K.lookup f_is_step = some ⟨oc_is_step, od_is_step, .func (PySem.W.fnOf "is_step" "is_step" (defArgs s_is_step) (defBody s_is_step) (defScope s_is_step) .none kV_is_step dc_is_step pm_is_step an_is_step cd_is_step ct_is_step), sl_is_step⟩)
    (c_is_step : PySem.W.codeIn K cd_is_step "is_step" = true)
    (k_is_step : PySem.W.keepIn K (.ref f_is_step) = true)
    (a_turned : PySem.W.nsIn K mainGlobals "turned" = some (some (.ref f_turned)))
    (l_turned : K.lookup f_turned = some ⟨oc_turned, od_turned, .func (PySem.W.fnOf "turned" "turned" (defArgs s_turned) (defBody s_turned) (defScope s_turned) .none kV_turned dc_turned pm_turned an_turned cd_turned ct_turned), sl_turned⟩)
    (c_turned : PySem.W.codeIn K cd_turned "turned" = true)
    (k_turned : PySem.W.keepIn K (.ref f_turned) = true)
    (a_ran : PySem.W.nsIn K mainGlobals "ran" = some (some (.ref f_ran)))
    (l_ran : K.lookup f_ran = some ⟨oc_ran, od_ran, .func (PySem.W.fnOf "ran" "ran" (defArgs s_ran) (defBody s_ran) (defScope s_ran) .none kV_ran dc_ran pm_ran an_ran cd_ran ct_ran), sl_ran⟩)
    (c_ran : PySem.W.codeIn K cd_ran "ran" = true)
    (k_ran : PySem.W.keepIn K (.ref f_ran) = true)
    (a_stepped : PySem.W.nsIn K mainGlobals "stepped" = some (some (.ref f_stepped)))
    (l_stepped : K.lookup f_stepped = some ⟨oc_stepped, od_stepped, .func (PySem.W.fnOf "stepped" "stepped" (defArgs s_stepped) (defBody s_stepped) (defScope s_stepped) .none kV_stepped dc_stepped pm_stepped an_stepped cd_stepped ct_stepped), sl_stepped⟩)
    (c_stepped : PySem.W.codeIn K cd_stepped "stepped" = true)
    (k_stepped : PySem.W.keepIn K (.ref f_stepped) = true)
    (a_all_plain : PySem.W.nsIn K mainGlobals "all_plain" = some (some (.ref f_all_plain)))
    (l_all_plain : K.lookup f_all_plain = some ⟨oc_all_plain, od_all_plain, .func (PySem.W.fnOf "all_plain" "all_plain" (defArgs s_all_plain) (defBody s_all_plain) (defScope s_all_plain) .none kV_all_plain dc_all_plain pm_all_plain an_all_plain cd_all_plain ct_all_plain), sl_all_plain⟩)
    (c_all_plain : PySem.W.codeIn K cd_all_plain "all_plain" = true)
    (k_all_plain : PySem.W.keepIn K (.ref f_all_plain) = true)
    (a_Script_init : PySem.W.findIn K (.ref C) "__init__" = some (some (.ref f_Script_init)))
    (i_Script_init : PySem.W.isFn K (.ref f_Script_init) = true)
    (l_Script_init : K.lookup f_Script_init = some ⟨oc_Script_init, od_Script_init, .func (PySem.W.fnOf "__init__" "Script.__init__" (defArgs s_Script_init) (defBody s_Script_init) (defScope s_Script_init) .none kV_Script_init dc_Script_init pm_Script_init an_Script_init cd_Script_init ct_Script_init), sl_Script_init⟩)
    (c_Script_init : PySem.W.codeIn K cd_Script_init "Script.__init__" = true)
    (k_Script_init : PySem.W.keepIn K (.ref f_Script_init) = true)
    (a_first_of : PySem.W.nsIn K mainGlobals "first_of" = some (some (.ref f_first_of)))
    (l_first_of : K.lookup f_first_of = some ⟨oc_first_of, od_first_of, .func (PySem.W.fnOf "first_of" "first_of" (defArgs s_first_of) (defBody s_first_of) (defScope s_first_of) .none kV_first_of dc_first_of pm_first_of an_first_of cd_first_of ct_first_of), sl_first_of⟩)
    (c_first_of : PySem.W.codeIn K cd_first_of "first_of" = true)
    (k_first_of : PySem.W.keepIn K (.ref f_first_of) = true)
    (a_shown_by : PySem.W.nsIn K mainGlobals "shown_by" = some (some (.ref f_shown_by)))
    (l_shown_by : K.lookup f_shown_by = some ⟨oc_shown_by, od_shown_by, .func (PySem.W.fnOf "shown_by" "shown_by" (defArgs s_shown_by) (defBody s_shown_by) (defScope s_shown_by) .none kV_shown_by dc_shown_by pm_shown_by an_shown_by cd_shown_by ct_shown_by), sl_shown_by⟩)
    (c_shown_by : PySem.W.codeIn K cd_shown_by "shown_by" = true)
    (k_shown_by : PySem.W.keepIn K (.ref f_shown_by) = true)
    (a_law_alike : PySem.W.nsIn K mainGlobals "_law_alike" = some (some (.ref f_law_alike)))
    (l_law_alike : K.lookup f_law_alike = some ⟨oc_law_alike, od_law_alike, .func (PySem.W.fnOf "_law_alike" "_law_alike" (defArgs s_law_alike) (defBody s_law_alike) (defScope s_law_alike) .none kV_law_alike dc_law_alike pm_law_alike an_law_alike cd_law_alike ct_law_alike), sl_law_alike⟩)
    (c_law_alike : PySem.W.codeIn K cd_law_alike "_law_alike" = true)
    (k_law_alike : PySem.W.keepIn K (.ref f_law_alike) = true)
    (a_are_sizes : PySem.W.nsIn K mainGlobals "are_sizes" = some (some (.ref f_are_sizes)))
    (l_are_sizes : K.lookup f_are_sizes = some ⟨oc_are_sizes, od_are_sizes, .func (PySem.W.fnOf "are_sizes" "are_sizes" (defArgs s_are_sizes) (defBody s_are_sizes) (defScope s_are_sizes) .none kV_are_sizes dc_are_sizes pm_are_sizes an_are_sizes cd_are_sizes ct_are_sizes), sl_are_sizes⟩)
    (c_are_sizes : PySem.W.codeIn K cd_are_sizes "are_sizes" = true)
    (k_are_sizes : PySem.W.keepIn K (.ref f_are_sizes) = true)
    (a_check_sizes : PySem.W.nsIn K mainGlobals "check_sizes" = some (some (.ref f_check_sizes)))
    (l_check_sizes : K.lookup f_check_sizes = some ⟨oc_check_sizes, od_check_sizes, .func (PySem.W.fnOf "check_sizes" "check_sizes" (defArgs s_check_sizes) (defBody s_check_sizes) (defScope s_check_sizes) .none kV_check_sizes dc_check_sizes pm_check_sizes an_check_sizes cd_check_sizes ct_check_sizes), sl_check_sizes⟩)
    (c_check_sizes : PySem.W.codeIn K cd_check_sizes "check_sizes" = true)
    (k_check_sizes : PySem.W.keepIn K (.ref f_check_sizes) = true)
    (a_shown : PySem.W.nsIn K mainGlobals "shown" = some (some (.ref f_shown)))
    (l_shown : K.lookup f_shown = some ⟨oc_shown, od_shown, .func (PySem.W.fnOf "shown" "shown" (defArgs s_shown) (defBody s_shown) (defScope s_shown) .none kV_shown dc_shown pm_shown an_shown cd_shown ct_shown), sl_shown⟩)
    (c_shown : PySem.W.codeIn K cd_shown "shown" = true)
    (k_shown : PySem.W.keepIn K (.ref f_shown) = true)
    (a_trace : PySem.W.nsIn K mainGlobals "trace" = some (some (.ref f_trace)))
    (l_trace : K.lookup f_trace = some ⟨oc_trace, od_trace, .func (PySem.W.fnOf "trace" "trace" (defArgs s_trace) (defBody s_trace) (defScope s_trace) .none kV_trace dc_trace pm_trace an_trace cd_trace ct_trace), sl_trace⟩)
    (c_trace : PySem.W.codeIn K cd_trace "trace" = true)
    (k_trace : PySem.W.keepIn K (.ref f_trace) = true)
    (a_rows_from : PySem.W.nsIn K mainGlobals "rows_from" = some (some (.ref f_rows_from)))
    (l_rows_from : K.lookup f_rows_from = some ⟨oc_rows_from, od_rows_from, .func (PySem.W.fnOf "rows_from" "rows_from" (defArgs s_rows_from) (defBody s_rows_from) (defScope s_rows_from) .none kV_rows_from dc_rows_from pm_rows_from an_rows_from cd_rows_from ct_rows_from), sl_rows_from⟩)
    (c_rows_from : PySem.W.codeIn K cd_rows_from "rows_from" = true)
    (k_rows_from : PySem.W.keepIn K (.ref f_rows_from) = true)
    (a_rounds : PySem.W.nsIn K mainGlobals "rounds" = some (some (.ref f_rounds)))
    (l_rounds : K.lookup f_rounds = some ⟨oc_rounds, od_rounds, .func (PySem.W.fnOf "rounds" "rounds" (defArgs s_rounds) (defBody s_rounds) (defScope s_rounds) .none kV_rounds dc_rounds pm_rounds an_rounds cd_rounds ct_rounds), sl_rounds⟩)
    (c_rounds : PySem.W.codeIn K cd_rounds "rounds" = true)
    (k_rounds : PySem.W.keepIn K (.ref f_rounds) = true)
    (a_reach_of : PySem.W.nsIn K mainGlobals "reach_of" = some (some (.ref f_reach_of)))
    (l_reach_of : K.lookup f_reach_of = some ⟨oc_reach_of, od_reach_of, .func (PySem.W.fnOf "reach_of" "reach_of" (defArgs s_reach_of) (defBody s_reach_of) (defScope s_reach_of) .none kV_reach_of dc_reach_of pm_reach_of an_reach_of cd_reach_of ct_reach_of), sl_reach_of⟩)
    (c_reach_of : PySem.W.codeIn K cd_reach_of "reach_of" = true)
    (k_reach_of : PySem.W.keepIn K (.ref f_reach_of) = true)
    (pa_Script_reach : PySem.W.findIn K (.ref C) "reach" = some (some (.ref p_Script_reach)))
    (pg_Script_reach : PySem.W.specialIn K (.ref p_Script_reach) "__get__" = some (some (.builtin "property.__get__")))
    (pt_Script_reach : PySem.W.takesIn K (.ref p_Script_reach) = some true)
    (pr_Script_reach : PySem.W.recIn K p_Script_reach "property" = some (.ref f_Script_reach :: r_Script_reach))
    (l_Script_reach : K.lookup f_Script_reach = some ⟨oc_Script_reach, od_Script_reach, .func (PySem.W.fnOf "reach" "Script.reach" (defArgs s_Script_reach) (defBody s_Script_reach) (defScope s_Script_reach) .none kV_Script_reach dc_Script_reach pm_Script_reach an_Script_reach cd_Script_reach ct_Script_reach), sl_Script_reach⟩)
    (c_Script_reach : PySem.W.codeIn K cd_Script_reach "Script.reach" = true)
    (k_Script_reach : PySem.W.keepIn K (.ref f_Script_reach) = true)
    (a_bound_of : PySem.W.nsIn K mainGlobals "bound_of" = some (some (.ref f_bound_of)))
    (l_bound_of : K.lookup f_bound_of = some ⟨oc_bound_of, od_bound_of, .func (PySem.W.fnOf "bound_of" "bound_of" (defArgs s_bound_of) (defBody s_bound_of) (defScope s_bound_of) .none kV_bound_of dc_bound_of pm_bound_of an_bound_of cd_bound_of ct_bound_of), sl_bound_of⟩)
    (c_bound_of : PySem.W.codeIn K cd_bound_of "bound_of" = true)
    (k_bound_of : PySem.W.keepIn K (.ref f_bound_of) = true)
    (a_sizes_with : PySem.W.nsIn K mainGlobals "sizes_with" = some (some (.ref f_sizes_with)))
    (l_sizes_with : K.lookup f_sizes_with = some ⟨oc_sizes_with, od_sizes_with, .func (PySem.W.fnOf "sizes_with" "sizes_with" (defArgs s_sizes_with) (defBody s_sizes_with) (defScope s_sizes_with) .none kV_sizes_with dc_sizes_with pm_sizes_with an_sizes_with cd_sizes_with ct_sizes_with), sl_sizes_with⟩)
    (c_sizes_with : PySem.W.codeIn K cd_sizes_with "sizes_with" = true)
    (k_sizes_with : PySem.W.keepIn K (.ref f_sizes_with) = true)
    (a_check_wheel : PySem.W.nsIn K mainGlobals "check_wheel" = some (some (.ref f_check_wheel)))
    (l_check_wheel : K.lookup f_check_wheel = some ⟨oc_check_wheel, od_check_wheel, .func (PySem.W.fnOf "check_wheel" "check_wheel" (defArgs s_check_wheel) (defBody s_check_wheel) (defScope s_check_wheel) .none kV_check_wheel dc_check_wheel pm_check_wheel an_check_wheel cd_check_wheel ct_check_wheel), sl_check_wheel⟩)
    (c_check_wheel : PySem.W.codeIn K cd_check_wheel "check_wheel" = true)
    (k_check_wheel : PySem.W.keepIn K (.ref f_check_wheel) = true)
    (a_ever : PySem.W.nsIn K mainGlobals "ever" = some (some (.ref f_ever)))
    (l_ever : K.lookup f_ever = some ⟨oc_ever, od_ever, .func (PySem.W.fnOf "ever" "ever" (defArgs s_ever) (defBody s_ever) (defScope s_ever) .none kV_ever dc_ever pm_ever an_ever cd_ever ct_ever), sl_ever⟩)
    (c_ever : PySem.W.codeIn K cd_ever "ever" = true)
    (k_ever : PySem.W.keepIn K (.ref f_ever) = true)
    (a_parting_by : PySem.W.nsIn K mainGlobals "parting_by" = some (some (.ref f_parting_by)))
    (l_parting_by : K.lookup f_parting_by = some ⟨oc_parting_by, od_parting_by, .func (PySem.W.fnOf "parting_by" "parting_by" (defArgs s_parting_by) (defBody s_parting_by) (defScope s_parting_by) .none kV_parting_by dc_parting_by pm_parting_by an_parting_by cd_parting_by ct_parting_by), sl_parting_by⟩)
    (c_parting_by : PySem.W.codeIn K cd_parting_by "parting_by" = true)
    (k_parting_by : PySem.W.keepIn K (.ref f_parting_by) = true)
    (a_is_same : PySem.W.nsIn K mainGlobals "is_same" = some (some (.ref f_is_same)))
    (l_is_same : K.lookup f_is_same = some ⟨oc_is_same, od_is_same, .func (PySem.W.fnOf "is_same" "is_same" (defArgs s_is_same) (defBody s_is_same) (defScope s_is_same) .none kV_is_same dc_is_same pm_is_same an_is_same cd_is_same ct_is_same), sl_is_same⟩)
    (c_is_same : PySem.W.codeIn K cd_is_same "is_same" = true)
    (k_is_same : PySem.W.keepIn K (.ref f_is_same) = true)
    (a_needless : PySem.W.nsIn K mainGlobals "needless" = some (some (.ref f_needless)))
    (l_needless : K.lookup f_needless = some ⟨oc_needless, od_needless, .func (PySem.W.fnOf "needless" "needless" (defArgs s_needless) (defBody s_needless) (defScope s_needless) .none kV_needless dc_needless pm_needless an_needless cd_needless ct_needless), sl_needless⟩)
    (c_needless : PySem.W.codeIn K cd_needless "needless" = true)
    (k_needless : PySem.W.keepIn K (.ref f_needless) = true)
    (a_swaps : PySem.W.nsIn K mainGlobals "swaps" = some (some (.ref f_swaps)))
    (l_swaps : K.lookup f_swaps = some ⟨oc_swaps, od_swaps, .func (PySem.W.fnOf "swaps" "swaps" (defArgs s_swaps) (defBody s_swaps) (defScope s_swaps) .none kV_swaps dc_swaps pm_swaps an_swaps cd_swaps ct_swaps), sl_swaps⟩)
    (c_swaps : PySem.W.codeIn K cd_swaps "swaps" = true)
    (k_swaps : PySem.W.keepIn K (.ref f_swaps) = true)
    (a_settled : PySem.W.nsIn K mainGlobals "settled" = some (some (.ref f_settled)))
    (l_settled : K.lookup f_settled = some ⟨oc_settled, od_settled, .func (PySem.W.fnOf "settled" "settled" (defArgs s_settled) (defBody s_settled) (defScope s_settled) .none kV_settled dc_settled pm_settled an_settled cd_settled ct_settled), sl_settled⟩)
    (c_settled : PySem.W.codeIn K cd_settled "settled" = true)
    (k_settled : PySem.W.keepIn K (.ref f_settled) = true)
    (a_sizes_to : PySem.W.nsIn K mainGlobals "sizes_to" = some (some (.ref f_sizes_to)))
    (l_sizes_to : K.lookup f_sizes_to = some ⟨oc_sizes_to, od_sizes_to, .func (PySem.W.fnOf "sizes_to" "sizes_to" (defArgs s_sizes_to) (defBody s_sizes_to) (defScope s_sizes_to) .none kV_sizes_to dc_sizes_to pm_sizes_to an_sizes_to cd_sizes_to ct_sizes_to), sl_sizes_to⟩)
    (c_sizes_to : PySem.W.codeIn K cd_sizes_to "sizes_to" = true)
    (k_sizes_to : PySem.W.keepIn K (.ref f_sizes_to) = true)
    (a_is_showing : PySem.W.nsIn K mainGlobals "is_showing" = some (some (.ref f_is_showing)))
    (l_is_showing : K.lookup f_is_showing = some ⟨oc_is_showing, od_is_showing, .func (PySem.W.fnOf "is_showing" "is_showing" (defArgs s_is_showing) (defBody s_is_showing) (defScope s_is_showing) .none kV_is_showing dc_is_showing pm_is_showing an_is_showing cd_is_showing ct_is_showing), sl_is_showing⟩)
    (c_is_showing : PySem.W.codeIn K cd_is_showing "is_showing" = true)
    (k_is_showing : PySem.W.keepIn K (.ref f_is_showing) = true)
    (a_fitting : PySem.W.nsIn K mainGlobals "fitting" = some (some (.ref f_fitting)))
    (l_fitting : K.lookup f_fitting = some ⟨oc_fitting, od_fitting, .func (PySem.W.fnOf "fitting" "fitting" (defArgs s_fitting) (defBody s_fitting) (defScope s_fitting) .none kV_fitting dc_fitting pm_fitting an_fitting cd_fitting ct_fitting), sl_fitting⟩)
    (c_fitting : PySem.W.codeIn K cd_fitting "fitting" = true)
    (k_fitting : PySem.W.keepIn K (.ref f_fitting) = true)
    (a_Walk_init : PySem.W.findIn K (.ref CW) "__init__" = some (some (.ref f_Walk_init)))
    (i_Walk_init : PySem.W.isFn K (.ref f_Walk_init) = true)
    (l_Walk_init : K.lookup f_Walk_init = some ⟨oc_Walk_init, od_Walk_init, .func (PySem.W.fnOf "__init__" "Walk.__init__" (defArgs s_Walk_init) (defBody s_Walk_init) (defScope s_Walk_init) .none kV_Walk_init dc_Walk_init pm_Walk_init an_Walk_init cd_Walk_init ct_Walk_init), sl_Walk_init⟩)
    (c_Walk_init : PySem.W.codeIn K cd_Walk_init "Walk.__init__" = true)
    (k_Walk_init : PySem.W.keepIn K (.ref f_Walk_init) = true)
    (a_Walk_go : PySem.W.findIn K (.ref CW) "go" = some (some (.ref f_Walk_go)))
    (i_Walk_go : PySem.W.isFn K (.ref f_Walk_go) = true)
    (l_Walk_go : K.lookup f_Walk_go = some ⟨oc_Walk_go, od_Walk_go, .func (PySem.W.fnOf "go" "Walk.go" (defArgs s_Walk_go) (defBody s_Walk_go) (defScope s_Walk_go) .none kV_Walk_go dc_Walk_go pm_Walk_go an_Walk_go cd_Walk_go ct_Walk_go), sl_Walk_go⟩)
    (c_Walk_go : PySem.W.codeIn K cd_Walk_go "Walk.go" = true)
    (k_Walk_go : PySem.W.keepIn K (.ref f_Walk_go) = true)
    (a_Walk_do : PySem.W.findIn K (.ref CW) "do" = some (some (.ref f_Walk_do)))
    (i_Walk_do : PySem.W.isFn K (.ref f_Walk_do) = true)
    (l_Walk_do : K.lookup f_Walk_do = some ⟨oc_Walk_do, od_Walk_do, .func (PySem.W.fnOf "do" "Walk.do" (defArgs s_Walk_do) (defBody s_Walk_do) (defScope s_Walk_do) .none kV_Walk_do dc_Walk_do pm_Walk_do an_Walk_do cd_Walk_do ct_Walk_do), sl_Walk_do⟩)
    (c_Walk_do : PySem.W.codeIn K cd_Walk_do "Walk.do" = true)
    (k_Walk_do : PySem.W.keepIn K (.ref f_Walk_do) = true)
    (pa_Walk_showing : PySem.W.findIn K (.ref CW) "showing" = some (some (.ref p_Walk_showing)))
    (pg_Walk_showing : PySem.W.specialIn K (.ref p_Walk_showing) "__get__" = some (some (.builtin "property.__get__")))
    (pt_Walk_showing : PySem.W.takesIn K (.ref p_Walk_showing) = some true)
    (pr_Walk_showing : PySem.W.recIn K p_Walk_showing "property" = some (.ref f_Walk_showing :: r_Walk_showing))
    (l_Walk_showing : K.lookup f_Walk_showing = some ⟨oc_Walk_showing, od_Walk_showing, .func (PySem.W.fnOf "showing" "Walk.showing" (defArgs s_Walk_showing) (defBody s_Walk_showing) (defScope s_Walk_showing) .none kV_Walk_showing dc_Walk_showing pm_Walk_showing an_Walk_showing cd_Walk_showing ct_Walk_showing), sl_Walk_showing⟩)
    (c_Walk_showing : PySem.W.codeIn K cd_Walk_showing "Walk.showing" = true)
    (k_Walk_showing : PySem.W.keepIn K (.ref f_Walk_showing) = true)
    (pa_Walk_log : PySem.W.findIn K (.ref CW) "log" = some (some (.ref p_Walk_log)))
    (pg_Walk_log : PySem.W.specialIn K (.ref p_Walk_log) "__get__" = some (some (.builtin "property.__get__")))
    (pt_Walk_log : PySem.W.takesIn K (.ref p_Walk_log) = some true)
    (pr_Walk_log : PySem.W.recIn K p_Walk_log "property" = some (.ref f_Walk_log :: r_Walk_log))
    (l_Walk_log : K.lookup f_Walk_log = some ⟨oc_Walk_log, od_Walk_log, .func (PySem.W.fnOf "log" "Walk.log" (defArgs s_Walk_log) (defBody s_Walk_log) (defScope s_Walk_log) .none kV_Walk_log dc_Walk_log pm_Walk_log an_Walk_log cd_Walk_log ct_Walk_log), sl_Walk_log⟩)
    (c_Walk_log : PySem.W.codeIn K cd_Walk_log "Walk.log" = true)
    (k_Walk_log : PySem.W.keepIn K (.ref f_Walk_log) = true)
    (pa_Script_steps : PySem.W.findIn K (.ref C) "steps" = some (some (.ref p_Script_steps)))
    (pg_Script_steps : PySem.W.specialIn K (.ref p_Script_steps) "__get__" = some (some (.builtin "property.__get__")))
    (pt_Script_steps : PySem.W.takesIn K (.ref p_Script_steps) = some true)
    (pr_Script_steps : PySem.W.recIn K p_Script_steps "property" = some (.ref f_Script_steps :: r_Script_steps))
    (l_Script_steps : K.lookup f_Script_steps = some ⟨oc_Script_steps, od_Script_steps, .func (PySem.W.fnOf "steps" "Script.steps" (defArgs s_Script_steps) (defBody s_Script_steps) (defScope s_Script_steps) .none kV_Script_steps dc_Script_steps pm_Script_steps an_Script_steps cd_Script_steps ct_Script_steps), sl_Script_steps⟩)
    (c_Script_steps : PySem.W.codeIn K cd_Script_steps "Script.steps" = true)
    (k_Script_steps : PySem.W.keepIn K (.ref f_Script_steps) = true)
    (a_line_of : PySem.W.nsIn K mainGlobals "line_of" = some (some (.ref f_line_of)))
    (l_line_of : K.lookup f_line_of = some ⟨oc_line_of, od_line_of, .func (PySem.W.fnOf "line_of" "line_of" (defArgs s_line_of) (defBody s_line_of) (defScope s_line_of) .none kV_line_of dc_line_of pm_line_of an_line_of cd_line_of ct_line_of), sl_line_of⟩)
    (c_line_of : PySem.W.codeIn K cd_line_of "line_of" = true)
    (k_line_of : PySem.W.keepIn K (.ref f_line_of) = true)
    (a_write : PySem.W.nsIn K mainGlobals "write" = some (some (.ref f_write)))
    (l_write : K.lookup f_write = some ⟨oc_write, od_write, .func (PySem.W.fnOf "write" "write" (defArgs s_write) (defBody s_write) (defScope s_write) .none kV_write dc_write pm_write an_write cd_write ct_write), sl_write⟩)
    (c_write : PySem.W.codeIn K cd_write "write" = true)
    (k_write : PySem.W.keepIn K (.ref f_write) = true)
    (a_law_answers : PySem.W.nsIn K mainGlobals "_law_answers" = some (some (.ref f_law_answers)))
    (l_law_answers : K.lookup f_law_answers = some ⟨oc_law_answers, od_law_answers, .func (PySem.W.fnOf "_law_answers" "_law_answers" (defArgs s_law_answers) (defBody s_law_answers) (defScope s_law_answers) .none kV_law_answers dc_law_answers pm_law_answers an_law_answers cd_law_answers ct_law_answers), sl_law_answers⟩)
    (c_law_answers : PySem.W.codeIn K cd_law_answers "_law_answers" = true)
    (k_law_answers : PySem.W.keepIn K (.ref f_law_answers) = true)
    (a_law : PySem.W.nsIn K mainGlobals "law" = some (some (.ref f_law)))
    (l_law : K.lookup f_law = some ⟨oc_law, od_law, .func (PySem.W.fnOf "law" "law" (defArgs s_law) (defBody s_law) (defScope s_law) .none kV_law dc_law pm_law an_law cd_law ct_law), sl_law⟩)
    (c_law : PySem.W.codeIn K cd_law "law" = true)
    (k_law : PySem.W.keepIn K (.ref f_law) = true)
    (a_TURNS : PySem.W.nsIn K mainGlobals "TURNS" = some (some (.ref A_TURNS)))
    (l_TURNS : K.lookup A_TURNS = some ⟨.type "tuple", oo_TURNS, .seq #[.int (-2) t1_TURNS, .int (-1) t2_TURNS, .int 1 t3_TURNS, .int 2 t4_TURNS] n_TURNS, so_TURNS⟩)
    (a_PLACES : PySem.W.nsIn K mainGlobals "PLACES" = some (some (.ref A_PLACES)))
    (l_PLACES : K.lookup A_PLACES = some ⟨.type "tuple", oo_PLACES, .seq #[.int (-2) t1_PLACES, .int (-1) t2_PLACES, .int 0 t3_PLACES, .int 1 t4_PLACES] n_PLACES, so_PLACES⟩)
    (a_WORDS : PySem.W.nsIn K mainGlobals "WORDS" = some (some (.ref A_WORDS)))
    (l_WORDS : K.lookup A_WORDS = some ⟨.type "tuple", oo_WORDS, .seq #[.str "on" t1_WORDS, .str "back" t2_WORDS, .str "none" t3_WORDS] n_WORDS, so_WORDS⟩)
    (a_TAKEN : PySem.W.nsIn K mainGlobals "TAKEN" = some (some (.ref A_TAKEN)))
    (l_TAKEN : K.lookup A_TAKEN = some ⟨.type "dict", none, .dict #[⟨PyData.keyHash w.params "on", .str "on" tT1, .int 1 uT1⟩, ⟨PyData.keyHash w.params "back", .str "back" tT2, .int (-1) uT2⟩, ⟨PyData.keyHash w.params "none", .str "none" tT3, .int 0 uT3⟩] nT, #[]⟩)
    (nT1 : PySem.W.nsIn K A_TAKEN "on" = some (some (.int 1 vT1)))
    (nT2 : PySem.W.nsIn K A_TAKEN "back" = some (some (.int (-1) vT2)))
    (nT3 : PySem.W.nsIn K A_TAKEN "none" = some (some (.int 0 vT3)))
    (a_MOST_WHEELS : PySem.W.nsIn K mainGlobals "MOST_WHEELS" = some (some (.int 3 t_MOST_WHEELS)))
    (a_MOST_STEPS : PySem.W.nsIn K mainGlobals "MOST_STEPS" = some (some (.int 5 t_MOST_STEPS)))
    (a_LEAST_SIZE : PySem.W.nsIn K mainGlobals "LEAST_SIZE" = some (some (.int 2 t_LEAST_SIZE)))
    (a_MOST_SIZE : PySem.W.nsIn K mainGlobals "MOST_SIZE" = some (some (.int 1000000000000000000000000000000 t_MOST_SIZE)))
    (a_MOST_BOUND : PySem.W.nsIn K mainGlobals "MOST_BOUND" = some (some (.int 12 t_MOST_BOUND)))
    (a_MOST_ASKED : PySem.W.nsIn K mainGlobals "MOST_ASKED" = some (some (.int 3 t_MOST_ASKED)))
    (a_ROOM : PySem.W.nsIn K mainGlobals "ROOM" = some (some (.str "  " t_ROOM))) :
    ∃ fd : FuncData, (∀ (s : Shared) (v : Value), BindsTo s fd ⟨[v], []⟩ [("_law_script", v)]) ∧ ∀ base : Heap, K.In base → base.Ns mainGlobals mg → FnOk P w K mg base CX0 11 fa fd ["_law_script"] (spLaw K) := by
  have e := hfa.symm.trans (PySem.W.mg_of X G a_law)
  cases e
  have N : Nm mg := ⟨PySem.W.mg_none_of X G z_len, PySem.W.mg_none_of X G z_range, PySem.W.mg_none_of X G z_max, PySem.W.mg_none_of X G z_min, PySem.W.mg_none_of X G z_int, PySem.W.mg_none_of X G z_bool, PySem.W.mg_none_of X G z_str, PySem.W.mg_none_of X G z_list, PySem.W.mg_none_of X G z_tuple, PySem.W.mg_none_of X G z_dict, PySem.W.mg_none_of X G z_set, PySem.W.mg_none_of X G z_abs, PySem.W.mg_none_of X G z_sum, PySem.W.mg_none_of X G z_all, PySem.W.mg_none_of X G z_any, PySem.W.mg_none_of X G z_isinstance, PySem.W.mg_none_of X G z_zip, PySem.W.mg_none_of X G z_enumerate, PySem.W.mg_none_of X G z_sorted⟩
  have T : ScT K C := ⟨⟨s_pg, s_hd, s_po, s_sa⟩, s_n0, s_n1⟩
  have TW : WkT K CW := ⟨⟨w_pg, w_hd, w_po, w_sa⟩, w_n0, w_n1, w_n2, w_n3⟩
  have F_law_next := fun_mk (st := s_law_next) l_law_next c_law_next k_law_next
  have B_law_next := F_law_next.binds (ps := ["_law_h", "_law_cap"]) fun _ _ _ _ _ _ us hl => match us, hl with | [_, _], _ => rfl
  have F_law_mix := fun_mk (st := s_law_mix) l_law_mix c_law_mix k_law_mix
  have B_law_mix := F_law_mix.binds (ps := ["_law_script", "_law_seed"]) fun _ _ _ _ _ _ us hl => match us, hl with | [_, _], _ => rfl
  have F_law_pick := fun_mk (st := s_law_pick) l_law_pick c_law_pick k_law_pick
  have B_law_pick := F_law_pick.binds (ps := ["_law_h", "_law_things"]) fun _ _ _ _ _ _ us hl => match us, hl with | [_, _], _ => rfl
  have F_law_plain := fun_mk (st := s_law_plain) l_law_plain c_law_plain k_law_plain
  have B_law_plain := F_law_plain.binds (ps := ["_law_h", "_law_wheels"]) fun _ _ _ _ _ _ us hl => match us, hl with | [_, _], _ => rfl
  have F_law_step := fun_mk (st := s_law_step) l_law_step c_law_step k_law_step
  have B_law_step := F_law_step.binds (ps := ["_law_h", "_law_wheels"]) fun _ _ _ _ _ _ us hl => match us, hl with | [_, _], _ => rfl
  have F_law_many := fun_mk (st := s_law_many) l_law_many c_law_many k_law_many
  have B_law_many := F_law_many.binds (ps := ["_law_steps_here"]) fun _ _ _ _ _ _ us hl => match us, hl with | [_], _ => rfl
  have F_law_steps := fun_mk (st := s_law_steps) l_law_steps c_law_steps k_law_steps
  have B_law_steps := F_law_steps.binds (ps := ["_law_h", "_law_wheels", "_law_most"]) fun _ _ _ _ _ _ us hl => match us, hl with | [_, _, _], _ => rfl
  have F_is_integer := fun_mk (st := s_is_integer) l_is_integer c_is_integer k_is_integer
  have B_is_integer := F_is_integer.binds (ps := ["thing", "low", "high"]) fun _ _ _ _ _ _ us hl => match us, hl with | [_, _, _], _ => rfl
  have F_is_plain := fun_mk (st := s_is_plain) l_is_plain c_is_plain k_is_plain
  have B_is_plain := F_is_plain.binds (ps := ["thing", "wheels"]) fun _ _ _ _ _ _ us hl => match us, hl with | [_, _], _ => rfl
  have F_are_plain := fun_mk (st := s_are_plain) l_are_plain c_are_plain k_are_plain
  have B_are_plain := F_are_plain.binds (ps := ["thing", "wheels"]) fun _ _ _ _ _ _ us hl => match us, hl with | [_, _], _ => rfl
  have F_is_step := fun_mk (st := s_is_step) l_is_step c_is_step k_is_step
  have B_is_step := F_is_step.binds (ps := ["thing", "wheels"]) fun _ _ _ _ _ _ us hl => match us, hl with | [_, _], _ => rfl
  have F_turned := fun_mk (st := s_turned) l_turned c_turned k_turned
  have B_turned := F_turned.binds (ps := ["showing", "sizes", "wheel", "by", "word"]) fun _ _ _ _ _ _ us hl => match us, hl with | [_, _, _, _, _], _ => rfl
  have F_ran := fun_mk (st := s_ran) l_ran c_ran k_ran
  have B_ran := F_ran.binds (ps := ["showing", "sizes", "steps"]) fun _ _ _ _ _ _ us hl => match us, hl with | [_, _, _], _ => rfl
  have F_stepped := fun_mk (st := s_stepped) l_stepped c_stepped k_stepped
  have B_stepped := F_stepped.binds (ps := ["showing", "sizes", "step"]) fun _ _ _ _ _ _ us hl => match us, hl with | [_, _, _], _ => rfl
  have F_all_plain := fun_mk (st := s_all_plain) l_all_plain c_all_plain k_all_plain
  have B_all_plain := F_all_plain.binds (ps := ["steps"]) fun _ _ _ _ _ _ us hl => match us, hl with | [_], _ => rfl
  have F_Script_init := fun_mk (st := s_Script_init) l_Script_init c_Script_init k_Script_init
  have B_Script_init := F_Script_init.binds (ps := ["self", "wheels", "steps"]) fun _ _ _ _ _ _ us hl => match us, hl with | [_, _, _], _ => rfl
  have F_first_of := fun_mk (st := s_first_of) l_first_of c_first_of k_first_of
  have B_first_of := F_first_of.binds (ps := ["sizes"]) fun _ _ _ _ _ _ us hl => match us, hl with | [_], _ => rfl
  have F_shown_by := fun_mk (st := s_shown_by) l_shown_by c_shown_by k_shown_by
  have B_shown_by := F_shown_by.binds (ps := ["script", "sizes"]) fun _ _ _ _ _ _ us hl => match us, hl with | [_, _], _ => rfl
  have F_law_alike := fun_mk (st := s_law_alike) l_law_alike c_law_alike k_law_alike
  have B_law_alike := F_law_alike.binds (ps := ["_law_found", "_law_due"]) fun _ _ _ _ _ _ us hl => match us, hl with | [_, _], _ => rfl
  have F_are_sizes := fun_mk (st := s_are_sizes) l_are_sizes c_are_sizes k_are_sizes
  have B_are_sizes := F_are_sizes.binds (ps := ["thing", "wheels"]) fun _ _ _ _ _ _ us hl => match us, hl with | [_, _], _ => rfl
  have F_check_sizes := fun_mk (st := s_check_sizes) l_check_sizes c_check_sizes k_check_sizes
  have B_check_sizes := F_check_sizes.binds (ps := ["thing", "wheels"]) fun _ _ _ _ _ _ us hl => match us, hl with | [_, _], _ => rfl
  have F_shown := fun_mk (st := s_shown) l_shown c_shown k_shown
  have B_shown := F_shown.binds (ps := ["script", "sizes"]) fun _ _ _ _ _ _ us hl => match us, hl with | [_, _], _ => rfl
  have F_trace := fun_mk (st := s_trace) l_trace c_trace k_trace
  have B_trace := F_trace.binds (ps := ["script", "sizes"]) fun _ _ _ _ _ _ us hl => match us, hl with | [_, _], _ => rfl
  have F_rows_from := fun_mk (st := s_rows_from) l_rows_from c_rows_from k_rows_from
  have B_rows_from := F_rows_from.binds (ps := ["script", "sizes", "showing", "most"]) fun _ _ _ _ _ _ us hl => match us, hl with | [_, _, _, _], _ => rfl
  have F_rounds := fun_mk (st := s_rounds) l_rounds c_rounds k_rounds
  have B_rounds := F_rounds.binds (ps := ["script", "sizes"]) fun _ _ _ _ _ _ us hl => match us, hl with | [_, _], _ => rfl
  have F_reach_of := fun_mk (st := s_reach_of) l_reach_of c_reach_of k_reach_of
  have B_reach_of := F_reach_of.binds (ps := ["steps"]) fun _ _ _ _ _ _ us hl => match us, hl with | [_], _ => rfl
  have F_Script_reach := fun_mk (st := s_Script_reach) l_Script_reach c_Script_reach k_Script_reach
  have B_Script_reach := F_Script_reach.binds (ps := ["self"]) fun _ _ _ _ _ _ us hl => match us, hl with | [_], _ => rfl
  have F_bound_of := fun_mk (st := s_bound_of) l_bound_of c_bound_of k_bound_of
  have B_bound_of := F_bound_of.binds (ps := ["wheels", "reach"]) fun _ _ _ _ _ _ us hl => match us, hl with | [_, _], _ => rfl
  have F_sizes_with := fun_mk (st := s_sizes_with) l_sizes_with c_sizes_with k_sizes_with
  have B_sizes_with := F_sizes_with.binds (ps := ["wheels", "total", "bound"]) fun _ _ _ _ _ _ us hl => match us, hl with | [_, _, _], _ => rfl
  have F_check_wheel := fun_mk (st := s_check_wheel) l_check_wheel c_check_wheel k_check_wheel
  have B_check_wheel := F_check_wheel.binds (ps := ["script", "wheel"]) fun _ _ _ _ _ _ us hl => match us, hl with | [_, _], _ => rfl
  have F_ever := fun_mk (st := s_ever) l_ever c_ever k_ever
  have B_ever := F_ever.binds (ps := ["script", "wheel", "place"]) fun _ _ _ _ _ _ us hl => match us, hl with | [_, _, _], _ => rfl
  have F_parting_by := fun_mk (st := s_parting_by) l_parting_by c_parting_by k_parting_by
  have B_parting_by := F_parting_by.binds (ps := ["one", "other"]) fun _ _ _ _ _ _ us hl => match us, hl with | [_, _], _ => rfl
  have F_is_same := fun_mk (st := s_is_same) l_is_same c_is_same k_is_same
  have B_is_same := F_is_same.binds (ps := ["script", "steps"]) fun _ _ _ _ _ _ us hl => match us, hl with | [_, _], _ => rfl
  have F_needless := fun_mk (st := s_needless) l_needless c_needless k_needless
  have B_needless := F_needless.binds (ps := ["script"]) fun _ _ _ _ _ _ us hl => match us, hl with | [_], _ => rfl
  have F_swaps := fun_mk (st := s_swaps) l_swaps c_swaps k_swaps
  have B_swaps := F_swaps.binds (ps := ["script"]) fun _ _ _ _ _ _ us hl => match us, hl with | [_], _ => rfl
  have F_settled := fun_mk (st := s_settled) l_settled c_settled k_settled
  have B_settled := F_settled.binds (ps := ["script"]) fun _ _ _ _ _ _ us hl => match us, hl with | [_], _ => rfl
  have F_sizes_to := fun_mk (st := s_sizes_to) l_sizes_to c_sizes_to k_sizes_to
  have B_sizes_to := F_sizes_to.binds (ps := ["wheels", "bound"]) fun _ _ _ _ _ _ us hl => match us, hl with | [_, _], _ => rfl
  have F_is_showing := fun_mk (st := s_is_showing) l_is_showing c_is_showing k_is_showing
  have B_is_showing := F_is_showing.binds (ps := ["thing"]) fun _ _ _ _ _ _ us hl => match us, hl with | [_], _ => rfl
  have F_fitting := fun_mk (st := s_fitting) l_fitting c_fitting k_fitting
  have B_fitting := F_fitting.binds (ps := ["script", "showing", "bound"]) fun _ _ _ _ _ _ us hl => match us, hl with | [_, _, _], _ => rfl
  have F_Walk_init := fun_mk (st := s_Walk_init) l_Walk_init c_Walk_init k_Walk_init
  have B_Walk_init := F_Walk_init.binds (ps := ["self", "sizes"]) fun _ _ _ _ _ _ us hl => match us, hl with | [_, _], _ => rfl
  have F_Walk_go := fun_mk (st := s_Walk_go) l_Walk_go c_Walk_go k_Walk_go
  have B_Walk_go := F_Walk_go.binds (ps := ["self", "step"]) fun _ _ _ _ _ _ us hl => match us, hl with | [_, _], _ => rfl
  have F_Walk_do := fun_mk (st := s_Walk_do) l_Walk_do c_Walk_do k_Walk_do
  have B_Walk_do := F_Walk_do.binds (ps := ["self", "step"]) fun _ _ _ _ _ _ us hl => match us, hl with | [_, _], _ => rfl
  have F_Walk_showing := fun_mk (st := s_Walk_showing) l_Walk_showing c_Walk_showing k_Walk_showing
  have B_Walk_showing := F_Walk_showing.binds (ps := ["self"]) fun _ _ _ _ _ _ us hl => match us, hl with | [_], _ => rfl
  have F_Walk_log := fun_mk (st := s_Walk_log) l_Walk_log c_Walk_log k_Walk_log
  have B_Walk_log := F_Walk_log.binds (ps := ["self"]) fun _ _ _ _ _ _ us hl => match us, hl with | [_], _ => rfl
  have F_Script_steps := fun_mk (st := s_Script_steps) l_Script_steps c_Script_steps k_Script_steps
  have B_Script_steps := F_Script_steps.binds (ps := ["self"]) fun _ _ _ _ _ _ us hl => match us, hl with | [_], _ => rfl
  have F_line_of := fun_mk (st := s_line_of) l_line_of c_line_of k_line_of
  have B_line_of := F_line_of.binds (ps := ["step"]) fun _ _ _ _ _ _ us hl => match us, hl with | [_], _ => rfl
  have F_write := fun_mk (st := s_write) l_write c_write k_write
  have B_write := F_write.binds (ps := ["script"]) fun _ _ _ _ _ _ us hl => match us, hl with | [_], _ => rfl
  have F_law_answers := fun_mk (st := s_law_answers) l_law_answers c_law_answers k_law_answers
  have B_law_answers := F_law_answers.binds (ps := ["_law_made", "_law_walk"]) fun _ _ _ _ _ _ us hl => match us, hl with | [_, _], _ => rfl
  have F_law := fun_mk (st := s_law) l_law c_law k_law
  have B_law := F_law.binds (ps := ["_law_script"]) fun _ _ _ _ _ _ us hl => match us, hl with | [_], _ => rfl
  have G_TURNS := gc_ref X G a_TURNS
  have T_TURNS := kt_ints4 l_TURNS
  have G_PLACES := gc_ref X G a_PLACES
  have T_PLACES := kt_ints4 l_PLACES
  have G_WORDS := gc_ref X G a_WORDS
  have T_WORDS := kt_strs3 l_WORDS
  have G_TAKEN := gc_ref X G a_TAKEN
  have T_TAKEN := taken_of l_TAKEN nT1 nT2 nT3
  have G_MOST_WHEELS := gc_int X G a_MOST_WHEELS
  have G_MOST_STEPS := gc_int X G a_MOST_STEPS
  have G_LEAST_SIZE := gc_int X G a_LEAST_SIZE
  have G_MOST_SIZE : Gc mg "MOST_SIZE" (.int (10 ^ 30)) := (show (10 : Int) ^ 30 = 1000000000000000000000000000000 by decide) ▸ gc_int X G a_MOST_SIZE
  have G_MOST_BOUND := gc_int X G a_MOST_BOUND
  have G_MOST_ASKED := gc_int X G a_MOST_ASKED
  have G_ROOM := gc_str X G a_ROOM
  refine ⟨PySem.W.fnOf "law" "law" (defArgs s_law) (defBody s_law) (defScope s_law) .none kV_law dc_law pm_law an_law cd_law ct_law, fun s v => .of_eq rfl, fun base _ _ => ?_⟩
  have c_next := cal_of (base := base) (P := P) (w := w) F_law_next (PySem.W.mg_of X G a_law_next) B_law_next (ok_next F_law_next N)
  have c_mix := cal_of (base := base) (P := P) (w := w) F_law_mix (PySem.W.mg_of X G a_law_mix) B_law_mix (ok_mix F_law_mix N)
  have c_pick := cal_of (base := base) (P := P) (w := w) F_law_pick (PySem.W.mg_of X G a_law_pick) B_law_pick (ok_pick F_law_pick N c_next)
  have c_plain := cal_of (base := base) (P := P) (w := w) F_law_plain (PySem.W.mg_of X G a_law_plain) B_law_plain (ok_plain F_law_plain N c_next c_pick)
  have c_step := cal_of (base := base) (P := P) (w := w) F_law_step (PySem.W.mg_of X G a_law_step) B_law_step (ok_step F_law_step N c_next c_plain)
  have c_many := cal_of (base := base) (P := P) (w := w) F_law_many (PySem.W.mg_of X G a_law_many) B_law_many (ok_many F_law_many N)
  have c_steps := cal_of (base := base) (P := P) (w := w) F_law_steps (PySem.W.mg_of X G a_law_steps) B_law_steps (ok_steps F_law_steps N c_next c_step c_many)
  have c_isint := cal_of (base := base) (P := P) (w := w) F_is_integer (PySem.W.mg_of X G a_is_integer) B_is_integer (ok_is_integer F_is_integer N)
  have c_isplain := cal_of (base := base) (P := P) (w := w) F_is_plain (PySem.W.mg_of X G a_is_plain) B_is_plain (ok_is_plain F_is_plain N c_isint G_TURNS T_TURNS G_PLACES T_PLACES G_WORDS T_WORDS)
  have c_areplain := cal_of (base := base) (P := P) (w := w) F_are_plain (PySem.W.mg_of X G a_are_plain) B_are_plain (ok_are_plain F_are_plain N c_isplain)
  have c_isstep := cal_of (base := base) (P := P) (w := w) F_is_step (PySem.W.mg_of X G a_is_step) B_is_step (ok_is_step F_is_step N c_isint c_isplain c_areplain)
  have c_turned := cal_of (base := base) (P := P) (w := w) F_turned (PySem.W.mg_of X G a_turned) B_turned (ok_turned F_turned N G_TAKEN T_TAKEN)
  have c_ran0 := cal_of (base := base) (P := P) (w := w) F_ran (PySem.W.mg_of X G a_ran) B_ran (fn_none (k := 0) (ps := ["showing", "sizes", "steps"]) (sp := spRan K 0) no_ran)
  have c_stepped0 := cal_of (base := base) (P := P) (w := w) F_stepped (PySem.W.mg_of X G a_stepped) B_stepped (ok_stepped (lv' := 1) F_stepped N c_turned c_ran0 (by decide) (by decide))
  have c_ran1 := cal_of (base := base) (P := P) (w := w) F_ran (PySem.W.mg_of X G a_ran) B_ran (ok_ran F_ran c_stepped0)
  have c_stepped1 := cal_of (base := base) (P := P) (w := w) F_stepped (PySem.W.mg_of X G a_stepped) B_stepped (ok_stepped (lv' := 3) F_stepped N c_turned c_ran1 (by decide) (by decide))
  have c_ran2 := cal_of (base := base) (P := P) (w := w) F_ran (PySem.W.mg_of X G a_ran) B_ran (ok_ran F_ran c_stepped1)
  have c_allplain := cal_of (base := base) (P := P) (w := w) F_all_plain (PySem.W.mg_of X G a_all_plain) B_all_plain (ok_all_plain F_all_plain)
  have c_script : Mak CX0 P w K mg base _ "Script" C _ := ⟨f_Script_init, _, _, ⟨s_mk, a_Script_init, i_Script_init, s_kc⟩, ok_init F_Script_init N T c_isint c_isstep c_allplain G_MOST_WHEELS G_MOST_STEPS, PySem.W.mg_of X G s_aC, B_Script_init⟩
  have c_first := cal_of (base := base) (P := P) (w := w) F_first_of (PySem.W.mg_of X G a_first_of) B_first_of (ok_first_of F_first_of N)
  have c_shownby := cal_of (base := base) (P := P) (w := w) F_shown_by (PySem.W.mg_of X G a_shown_by) B_shown_by (ok_shown_by F_shown_by T c_first c_ran2)
  have c_alike0 := cal_of (base := base) (P := P) (w := w) F_law_alike (PySem.W.mg_of X G a_law_alike) B_law_alike (fn_none (k := 0) (ps := ["_law_found", "_law_due"]) (sp := spAlike K 0) no_alike)
  have c_alike1 := cal_of (base := base) (P := P) (w := w) F_law_alike (PySem.W.mg_of X G a_law_alike) B_law_alike (ok_alike F_law_alike N c_alike0)
  have c_alike2 := cal_of (base := base) (P := P) (w := w) F_law_alike (PySem.W.mg_of X G a_law_alike) B_law_alike (ok_alike F_law_alike N c_alike1)
  have c_alike3 := cal_of (base := base) (P := P) (w := w) F_law_alike (PySem.W.mg_of X G a_law_alike) B_law_alike (ok_alike F_law_alike N c_alike2)
  have c_alike4 := cal_of (base := base) (P := P) (w := w) F_law_alike (PySem.W.mg_of X G a_law_alike) B_law_alike (ok_alike F_law_alike N c_alike3)
  have c_alike5 := cal_of (base := base) (P := P) (w := w) F_law_alike (PySem.W.mg_of X G a_law_alike) B_law_alike (ok_alike F_law_alike N c_alike4)
  have c_alike6 := cal_of (base := base) (P := P) (w := w) F_law_alike (PySem.W.mg_of X G a_law_alike) B_law_alike (ok_alike F_law_alike N c_alike5)
  have c_aresizes := cal_of (base := base) (P := P) (w := w) F_are_sizes (PySem.W.mg_of X G a_are_sizes) B_are_sizes (ok_are_sizes F_are_sizes N c_isint G_LEAST_SIZE G_MOST_SIZE)
  have c_checksizes := cal_of (base := base) (P := P) (w := w) F_check_sizes (PySem.W.mg_of X G a_check_sizes) B_check_sizes (ok_check_sizes F_check_sizes c_aresizes)
  have c_shown := cal_of (base := base) (P := P) (w := w) F_shown (PySem.W.mg_of X G a_shown) B_shown (ok_shown F_shown T c_checksizes c_shownby)
  have c_trace := cal_of (base := base) (P := P) (w := w) F_trace (PySem.W.mg_of X G a_trace) B_trace (ok_trace F_trace T c_checksizes c_first c_stepped1)
  have c_rowsfrom := cal_of (base := base) (P := P) (w := w) F_rows_from (PySem.W.mg_of X G a_rows_from) B_rows_from (ok_rows_from F_rows_from N T c_ran2)
  have c_rounds := cal_of (base := base) (P := P) (w := w) F_rounds (PySem.W.mg_of X G a_rounds) B_rounds (ok_rounds F_rounds N T c_checksizes c_first c_rowsfrom)
  have c_reachof := cal_of (base := base) (P := P) (w := w) F_reach_of (PySem.W.mg_of X G a_reach_of) B_reach_of (ok_reach_of F_reach_of N c_allplain)
  have c_sreach : Prp CX0 P w K mg base _ C "reach" _ := ⟨p_Script_reach, f_Script_reach, _, _, ok_sreach F_Script_reach T c_reachof, ⟨pa_Script_reach, pg_Script_reach, pt_Script_reach, _, pr_Script_reach⟩, T.cl, B_Script_reach⟩
  have c_boundof := cal_of (base := base) (P := P) (w := w) F_bound_of (PySem.W.mg_of X G a_bound_of) B_bound_of (ok_bound_of F_bound_of)
  have c_sizesw0 := cal_of (base := base) (P := P) (w := w) F_sizes_with (PySem.W.mg_of X G a_sizes_with) B_sizes_with (fn_none (k := 0) (ps := ["wheels", "total", "bound"]) (sp := spSizesWith K 0) no_sizesW)
  have c_sizesw1 := cal_of (base := base) (P := P) (w := w) F_sizes_with (PySem.W.mg_of X G a_sizes_with) B_sizes_with (ok_sizes_with F_sizes_with N c_sizesw0 G_LEAST_SIZE)
  have c_sizesw2 := cal_of (base := base) (P := P) (w := w) F_sizes_with (PySem.W.mg_of X G a_sizes_with) B_sizes_with (ok_sizes_with F_sizes_with N c_sizesw1 G_LEAST_SIZE)
  have c_sizesw3 := cal_of (base := base) (P := P) (w := w) F_sizes_with (PySem.W.mg_of X G a_sizes_with) B_sizes_with (ok_sizes_with F_sizes_with N c_sizesw2 G_LEAST_SIZE)
  have c_checkwheel := cal_of (base := base) (P := P) (w := w) F_check_wheel (PySem.W.mg_of X G a_check_wheel) B_check_wheel (ok_check_wheel F_check_wheel T c_isint)
  have c_ever := cal_of (base := base) (P := P) (w := w) F_ever (PySem.W.mg_of X G a_ever) B_ever (ok_ever F_ever N T c_checkwheel c_isint c_boundof c_sreach c_sizesw3 c_shownby G_MOST_ASKED G_LEAST_SIZE)
  have c_partingby := cal_of (base := base) (P := P) (w := w) F_parting_by (PySem.W.mg_of X G a_parting_by) B_parting_by (ok_parting_by F_parting_by N T c_boundof c_sreach c_sizesw3 c_shownby G_LEAST_SIZE)
  have c_issame := cal_of (base := base) (P := P) (w := w) F_is_same (PySem.W.mg_of X G a_is_same) B_is_same (ok_is_same F_is_same T c_partingby c_script)
  have c_needless := cal_of (base := base) (P := P) (w := w) F_needless (PySem.W.mg_of X G a_needless) B_needless (ok_needless F_needless N T c_issame)
  have c_swaps := cal_of (base := base) (P := P) (w := w) F_swaps (PySem.W.mg_of X G a_swaps) B_swaps (ok_swaps F_swaps N T c_issame)
  have c_settled := cal_of (base := base) (P := P) (w := w) F_settled (PySem.W.mg_of X G a_settled) B_settled (ok_settled F_settled N T c_sreach c_shownby)
  have c_sizesto := cal_of (base := base) (P := P) (w := w) F_sizes_to (PySem.W.mg_of X G a_sizes_to) B_sizes_to (ok_sizes_to F_sizes_to N G_LEAST_SIZE)
  have c_isshowing := cal_of (base := base) (P := P) (w := w) F_is_showing (PySem.W.mg_of X G a_is_showing) B_is_showing (ok_is_showing F_is_showing N)
  have c_fitting := cal_of (base := base) (P := P) (w := w) F_fitting (PySem.W.mg_of X G a_fitting) B_fitting (ok_fitting F_fitting T c_isint c_isshowing c_sizesto c_shownby G_LEAST_SIZE G_MOST_BOUND)
  have c_winit : Mak CX0 P w K mg base _ "Walk" CW _ := ⟨f_Walk_init, _, _, ⟨w_mk, a_Walk_init, i_Walk_init, w_kc⟩, ok_winit F_Walk_init N TW c_aresizes c_first G_MOST_WHEELS, PySem.W.mg_of X G w_aC, B_Walk_init⟩
  have c_wgo : Met CX0 P w K mg base _ CW "go" _ := ⟨f_Walk_go, _, _, ok_wgo F_Walk_go TW c_stepped1, ⟨a_Walk_go, i_Walk_go, k_Walk_go⟩, TW.cl, B_Walk_go⟩
  have c_wdo : Met CX0 P w K mg base _ CW "do" _ := ⟨f_Walk_do, _, _, ok_wdo F_Walk_do N TW c_isstep c_wgo, ⟨a_Walk_do, i_Walk_do, k_Walk_do⟩, TW.cl, B_Walk_do⟩
  have c_wshowing : Prp CX0 P w K mg base _ CW "showing" _ := ⟨p_Walk_showing, f_Walk_showing, _, _, ok_wshowing F_Walk_showing TW, ⟨pa_Walk_showing, pg_Walk_showing, pt_Walk_showing, _, pr_Walk_showing⟩, TW.cl, B_Walk_showing⟩
  have c_wlog : Prp CX0 P w K mg base _ CW "log" _ := ⟨p_Walk_log, f_Walk_log, _, _, ok_wlog F_Walk_log N TW, ⟨pa_Walk_log, pg_Walk_log, pt_Walk_log, _, pr_Walk_log⟩, TW.cl, B_Walk_log⟩
  have c_ssteps : Prp CX0 P w K mg base _ C "steps" _ := ⟨p_Script_steps, f_Script_steps, _, _, ok_ssteps F_Script_steps T, ⟨pa_Script_steps, pg_Script_steps, pt_Script_steps, _, pr_Script_steps⟩, T.cl, B_Script_steps⟩
  have c_lineof := cal_of (base := base) (P := P) (w := w) F_line_of (PySem.W.mg_of X G a_line_of) B_line_of (ok_line_of F_line_of N)
  have c_write := cal_of (base := base) (P := P) (w := w) F_write (PySem.W.mg_of X G a_write) B_write (ok_write F_write N T c_lineof G_ROOM)
  have c_answers := cal_of (base := base) (P := P) (w := w) F_law_answers (PySem.W.mg_of X G a_law_answers) B_law_answers (ok_law_answers F_law_answers c_trace c_needless c_swaps c_fitting c_shown c_rounds c_settled c_ever c_write c_wlog c_wshowing)
  exact ok_law F_law N c_mix c_step c_steps c_alike6 c_script c_winit c_wdo c_answers c_ssteps
end WZ
open PySem PySem.W PyProof.Rows
set_option maxHeartbeats 0 in
theorem PySem.Challenge.cw_wheelsizes_k18_asked_again_holds : PySem.Challenge.rw_wheelsizes_k18_asked_again.Holds := by
  refine topK ?_
  k_fill
  refine WZ.walk (l := PySem.Challenge.rw_wheelsizes_k18_asked_again) (x := "_law_script") (k := 11) rfl rfl ⟨rfl, by decide, by decide⟩ (fun w h Y => PySem.W.kIn_of Y) ?F
  case F =>
    intro w mg fa h KX G hmg
    refine' WZ.all_mk KX G hmg ?z_len ?z_range ?z_max ?z_min ?z_int ?z_bool ?z_str ?z_list ?z_tuple ?z_dict ?z_set ?z_abs ?z_sum ?z_all ?z_any ?z_isinstance ?z_zip ?z_enumerate ?z_sorted ?s_aC ?s_pg ?s_hd ?s_po ?s_sa ?s_mk ?s_kc ?s_n0 ?s_n1 ?w_aC ?w_pg ?w_hd ?w_po ?w_sa ?w_mk ?w_kc ?w_n0 ?w_n1 ?w_n2 ?w_n3 ?a_law_next ?l_law_next ?c_law_next ?k_law_next ?a_law_mix ?l_law_mix ?c_law_mix ?k_law_mix ?a_law_pick ?l_law_pick ?c_law_pick ?k_law_pick ?a_law_plain ?l_law_plain ?c_law_plain ?k_law_plain ?a_law_step ?l_law_step ?c_law_step ?k_law_step ?a_law_many ?l_law_many ?c_law_many ?k_law_many ?a_law_steps ?l_law_steps ?c_law_steps ?k_law_steps ?a_is_integer ?l_is_integer ?c_is_integer ?k_is_integer ?a_is_plain ?l_is_plain ?c_is_plain ?k_is_plain ?a_are_plain ?l_are_plain ?c_are_plain ?k_are_plain ?a_is_step ?l_is_step ?c_is_step ?k_is_step ?a_turned ?l_turned ?c_turned ?k_turned ?a_ran ?l_ran ?c_ran ?k_ran ?a_stepped ?l_stepped ?c_stepped ?k_stepped ?a_all_plain ?l_all_plain ?c_all_plain ?k_all_plain ?a_Script_init ?i_Script_init ?l_Script_init ?c_Script_init ?k_Script_init ?a_first_of ?l_first_of ?c_first_of ?k_first_of ?a_shown_by ?l_shown_by ?c_shown_by ?k_shown_by ?a_law_alike ?l_law_alike ?c_law_alike ?k_law_alike ?a_are_sizes ?l_are_sizes ?c_are_sizes ?k_are_sizes ?a_check_sizes ?l_check_sizes ?c_check_sizes ?k_check_sizes ?a_shown ?l_shown ?c_shown ?k_shown ?a_trace ?l_trace ?c_trace ?k_trace ?a_rows_from ?l_rows_from ?c_rows_from ?k_rows_from ?a_rounds ?l_rounds ?c_rounds ?k_rounds ?a_reach_of ?l_reach_of ?c_reach_of ?k_reach_of ?pa_Script_reach ?pg_Script_reach ?pt_Script_reach ?pr_Script_reach ?l_Script_reach ?c_Script_reach ?k_Script_reach ?a_bound_of ?l_bound_of ?c_bound_of ?k_bound_of ?a_sizes_with ?l_sizes_with ?c_sizes_with ?k_sizes_with ?a_check_wheel ?l_check_wheel ?c_check_wheel ?k_check_wheel ?a_ever ?l_ever ?c_ever ?k_ever ?a_parting_by ?l_parting_by ?c_parting_by ?k_parting_by ?a_is_same ?l_is_same ?c_is_same ?k_is_same ?a_needless ?l_needless ?c_needless ?k_needless ?a_swaps ?l_swaps ?c_swaps ?k_swaps ?a_settled ?l_settled ?c_settled ?k_settled ?a_sizes_to ?l_sizes_to ?c_sizes_to ?k_sizes_to ?a_is_showing ?l_is_showing ?c_is_showing ?k_is_showing ?a_fitting ?l_fitting ?c_fitting ?k_fitting ?a_Walk_init ?i_Walk_init ?l_Walk_init ?c_Walk_init ?k_Walk_init ?a_Walk_go ?i_Walk_go ?l_Walk_go ?c_Walk_go ?k_Walk_go ?a_Walk_do ?i_Walk_do ?l_Walk_do ?c_Walk_do ?k_Walk_do ?pa_Walk_showing ?pg_Walk_showing ?pt_Walk_showing ?pr_Walk_showing ?l_Walk_showing ?c_Walk_showing ?k_Walk_showing ?pa_Walk_log ?pg_Walk_log ?pt_Walk_log ?pr_Walk_log ?l_Walk_log ?c_Walk_log ?k_Walk_log ?pa_Script_steps ?pg_Script_steps ?pt_Script_steps ?pr_Script_steps ?l_Script_steps ?c_Script_steps ?k_Script_steps ?a_line_of ?l_line_of ?c_line_of ?k_line_of ?a_write ?l_write ?c_write ?k_write ?a_law_answers ?l_law_answers ?c_law_answers ?k_law_answers ?a_law ?l_law ?c_law ?k_law ?a_TURNS ?l_TURNS ?a_PLACES ?l_PLACES ?a_WORDS ?l_WORDS ?a_TAKEN ?l_TAKEN ?nT1 ?nT2 ?nT3 ?a_MOST_WHEELS ?a_MOST_STEPS ?a_LEAST_SIZE ?a_MOST_SIZE ?a_MOST_BOUND ?a_MOST_ASKED ?a_ROOM
    (case z_len => k_is)
    (case z_range => k_is)
    (case z_max => k_is)
    (case z_min => k_is)
    (case z_int => k_is)
    (case z_bool => k_is)
    (case z_str => k_is)
    (case z_list => k_is)
    (case z_tuple => k_is)
    (case z_dict => k_is)
    (case z_set => k_is)
    (case z_abs => k_is)
    (case z_sum => k_is)
    (case z_all => k_is)
    (case z_any => k_is)
    (case z_isinstance => k_is)
    (case z_zip => k_is)
    (case z_enumerate => k_is)
    (case z_sorted => k_is)
    (case s_aC => k_is)
    (case s_pg => k_is)
    (case s_hd => k_is)
    (case s_po => k_is)
    (case s_sa => k_is)
    (case s_mk => k_is)
    (case s_kc => k_is)
    (case s_n0 => k_is)
    (case s_n1 => k_is)
    (case w_aC => k_is)
    (case w_pg => k_is)
    (case w_hd => k_is)
    (case w_po => k_is)
    (case w_sa => k_is)
    (case w_mk => k_is)
    (case w_kc => k_is)
    (case w_n0 => k_is)
    (case w_n1 => k_is)
    (case w_n2 => k_is)
    (case w_n3 => k_is)
    (case a_law_next => k_is)
    (case l_law_next => k_is)
    (case c_law_next => k_is)
    (case k_law_next => k_is)
    (case a_law_mix => k_is)
    (case l_law_mix => k_is)
    (case c_law_mix => k_is)
    (case k_law_mix => k_is)
    (case a_law_pick => k_is)
    (case l_law_pick => k_is)
    (case c_law_pick => k_is)
    (case k_law_pick => k_is)
    (case a_law_plain => k_is)
    (case l_law_plain => k_is)
    (case c_law_plain => k_is)
    (case k_law_plain => k_is)
    (case a_law_step => k_is)
    (case l_law_step => k_is)
    (case c_law_step => k_is)
    (case k_law_step => k_is)
    (case a_law_many => k_is)
    (case l_law_many => k_is)
    (case c_law_many => k_is)
    (case k_law_many => k_is)
    (case a_law_steps => k_is)
    (case l_law_steps => k_is)
    (case c_law_steps => k_is)
    (case k_law_steps => k_is)
    (case a_is_integer => k_is)
    (case l_is_integer => k_is)
    (case c_is_integer => k_is)
    (case k_is_integer => k_is)
    (case a_is_plain => k_is)
    (case l_is_plain => k_is)
    (case c_is_plain => k_is)
    (case k_is_plain => k_is)
    (case a_are_plain => k_is)
    (case l_are_plain => k_is)
    (case c_are_plain => k_is)
    (case k_are_plain => k_is)
    (case a_is_step => k_is)
    (case l_is_step => k_is)
    (case c_is_step => k_is)
    (case k_is_step => k_is)
    (case a_turned => k_is)
    (case l_turned => k_is)
    (case c_turned => k_is)
    (case k_turned => k_is)
    (case a_ran => k_is)
    (case l_ran => k_is)
    (case c_ran => k_is)
    (case k_ran => k_is)
    (case a_stepped => k_is)
    (case l_stepped => k_is)
    (case c_stepped => k_is)
    (case k_stepped => k_is)
    (case a_all_plain => k_is)
    (case l_all_plain => k_is)
    (case c_all_plain => k_is)
    (case k_all_plain => k_is)
    (case a_Script_init => k_is)
    (case i_Script_init => k_is)
    (case l_Script_init => k_is)
    (case c_Script_init => k_is)
    (case k_Script_init => k_is)
    (case a_first_of => k_is)
    (case l_first_of => k_is)
    (case c_first_of => k_is)
    (case k_first_of => k_is)
    (case a_shown_by => k_is)
    (case l_shown_by => k_is)
    (case c_shown_by => k_is)
    (case k_shown_by => k_is)
    (case a_law_alike => k_is)
    (case l_law_alike => k_is)
    (case c_law_alike => k_is)
    (case k_law_alike => k_is)
    (case a_are_sizes => k_is)
    (case l_are_sizes => k_is)
    (case c_are_sizes => k_is)
    (case k_are_sizes => k_is)
    (case a_check_sizes => k_is)
    (case l_check_sizes => k_is)
    (case c_check_sizes => k_is)
    (case k_check_sizes => k_is)
    (case a_shown => k_is)
    (case l_shown => k_is)
    (case c_shown => k_is)
    (case k_shown => k_is)
    (case a_trace => k_is)
    (case l_trace => k_is)
    (case c_trace => k_is)
    (case k_trace => k_is)
    (case a_rows_from => k_is)
    (case l_rows_from => k_is)
    (case c_rows_from => k_is)
    (case k_rows_from => k_is)
    (case a_rounds => k_is)
    (case l_rounds => k_is)
    (case c_rounds => k_is)
    (case k_rounds => k_is)
    (case a_reach_of => k_is)
    (case l_reach_of => k_is)
    (case c_reach_of => k_is)
    (case k_reach_of => k_is)
    (case pa_Script_reach => k_is)
    (case pg_Script_reach => k_is)
    (case pt_Script_reach => k_is)
    (case pr_Script_reach => k_is)
    (case l_Script_reach => k_is)
    (case c_Script_reach => k_is)
    (case k_Script_reach => k_is)
    (case a_bound_of => k_is)
    (case l_bound_of => k_is)
    (case c_bound_of => k_is)
    (case k_bound_of => k_is)
    (case a_sizes_with => k_is)
    (case l_sizes_with => k_is)
    (case c_sizes_with => k_is)
    (case k_sizes_with => k_is)
    (case a_check_wheel => k_is)
    (case l_check_wheel => k_is)
    (case c_check_wheel => k_is)
    (case k_check_wheel => k_is)
    (case a_ever => k_is)
    (case l_ever => k_is)
    (case c_ever => k_is)
    (case k_ever => k_is)
    (case a_parting_by => k_is)
    (case l_parting_by => k_is)
    (case c_parting_by => k_is)
    (case k_parting_by => k_is)
    (case a_is_same => k_is)
    (case l_is_same => k_is)
    (case c_is_same => k_is)
    (case k_is_same => k_is)
    (case a_needless => k_is)
    (case l_needless => k_is)
    (case c_needless => k_is)
    (case k_needless => k_is)
    (case a_swaps => k_is)
    (case l_swaps => k_is)
    (case c_swaps => k_is)
    (case k_swaps => k_is)
    (case a_settled => k_is)
    (case l_settled => k_is)
    (case c_settled => k_is)
    (case k_settled => k_is)
    (case a_sizes_to => k_is)
    (case l_sizes_to => k_is)
    (case c_sizes_to => k_is)
    (case k_sizes_to => k_is)
    (case a_is_showing => k_is)
    (case l_is_showing => k_is)
    (case c_is_showing => k_is)
    (case k_is_showing => k_is)
    (case a_fitting => k_is)
    (case l_fitting => k_is)
    (case c_fitting => k_is)
    (case k_fitting => k_is)
    (case a_Walk_init => k_is)
    (case i_Walk_init => k_is)
    (case l_Walk_init => k_is)
    (case c_Walk_init => k_is)
    (case k_Walk_init => k_is)
    (case a_Walk_go => k_is)
    (case i_Walk_go => k_is)
    (case l_Walk_go => k_is)
    (case c_Walk_go => k_is)
    (case k_Walk_go => k_is)
    (case a_Walk_do => k_is)
    (case i_Walk_do => k_is)
    (case l_Walk_do => k_is)
    (case c_Walk_do => k_is)
    (case k_Walk_do => k_is)
    (case pa_Walk_showing => k_is)
    (case pg_Walk_showing => k_is)
    (case pt_Walk_showing => k_is)
    (case pr_Walk_showing => k_is)
    (case l_Walk_showing => k_is)
    (case c_Walk_showing => k_is)
    (case k_Walk_showing => k_is)
    (case pa_Walk_log => k_is)
    (case pg_Walk_log => k_is)
    (case pt_Walk_log => k_is)
    (case pr_Walk_log => k_is)
    (case l_Walk_log => k_is)
    (case c_Walk_log => k_is)
    (case k_Walk_log => k_is)
    (case pa_Script_steps => k_is)
    (case pg_Script_steps => k_is)
    (case pt_Script_steps => k_is)
    (case pr_Script_steps => k_is)
    (case l_Script_steps => k_is)
    (case c_Script_steps => k_is)
    (case k_Script_steps => k_is)
    (case a_line_of => k_is)
    (case l_line_of => k_is)
    (case c_line_of => k_is)
    (case k_line_of => k_is)
    (case a_write => k_is)
    (case l_write => k_is)
    (case c_write => k_is)
    (case k_write => k_is)
    (case a_law_answers => k_is)
    (case l_law_answers => k_is)
    (case c_law_answers => k_is)
    (case k_law_answers => k_is)
    (case a_law => k_is)
    (case l_law => k_is)
    (case c_law => k_is)
    (case k_law => k_is)
    (case a_TURNS => k_is)
    (case l_TURNS => k_is)
    (case a_PLACES => k_is)
    (case l_PLACES => k_is)
    (case a_WORDS => k_is)
    (case l_WORDS => k_is)
    (case a_TAKEN => k_is)
    (case l_TAKEN => k_is)
    (case nT1 => k_is)
    (case nT2 => k_is)
    (case nT3 => k_is)
    (case a_MOST_WHEELS => k_is)
    (case a_MOST_STEPS => k_is)
    (case a_LEAST_SIZE => k_is)
    (case a_MOST_SIZE => k_is)
    (case a_MOST_BOUND => k_is)
    (case a_MOST_ASKED => k_is)
    (case a_ROOM => k_is)
