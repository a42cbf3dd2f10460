import PyProof.Rows.All
import Wide.All
import OpenK.AllK
import Wide.FinOn
import HandS.ForMost
import HandS.IsInst
import HandS.RaiseMore
import HandS.More
import HandS.Evl
import HandS.WordsExc
import HandS.ExcInit
import HandS.ExcField
import HandS.ExcIs
import HandS.ExcOwn
import HandS.ClsMeth
import KE.KExcIs
import HandS.SetFor
import PySem.Challenge.RW_stridewell_k13_texts_that_tell_no_guesse
set_option Elab.async false
set_option linter.all false
set_option maxRecDepth 100000
set_option maxHeartbeats 0
namespace St
open PySem PySem.Spec PyProof.Rows L2
/-! ### a def of the text with its name and how its arguments bind -/
structure Df (K : PySem.W.Frag) (mg : Str → Option Value) (x : Str) (st : Stmt) (ps : List Str) (f : Addr) (fd : FuncData) : Prop where
  F : Fun K x x st f fd
  m : mg x = some (.ref f)
  b : Binds K fd ps []
/-- the built-ins' names are free -/
structure Nms (mg : Str → Option Value) : Prop where
  n_len : mg "len" = none
  n_range : mg "range" = none
  n_int : mg "int" = none
  n_str : mg "str" = none
  n_bool : mg "bool" = none
  n_tuple : mg "tuple" = none
  n_list : mg "list" = none
  n_isinstance : mg "isinstance" = none
  n_max : mg "max" = none
  n_min : mg "min" = none
  n_sum : mg "sum" = none
  n_sorted : mg "sorted" = none
  n_dict : mg "dict" = none
  n_set : mg "set" = none
  n_zip : mg "zip" = none
  n_enumerate : mg "enumerate" = none
/-! ### heaps -/
theorem same_upd {H : Hp} {p : Addr} {o : HO} (h : H p = none) : Same H (upd H p o) := fun b x e => by
  rw [upd_ne (ne_of_none e h)]
  exact e
/-- an object that H does not know may change -/
theorem same_mut {H H' : Hp} {p : Addr} {o : HO} (e : Same H H') (h : H p = none) : Same H (upd H' p o) := fun a u ha => by
  rw [upd_ne (ne_of_none ha h)]
  exact e a u ha
theorem same_rd {H H' : Hp} {a : Addr} {u : HO} (e : Same H H') (h : Rd H a u) : Rd H' a u := by
  rcases h with h | ⟨o, h⟩
  · exact Or.inl (e a _ h)
  · exact Or.inr ⟨o, e a _ h⟩
theorem same_t {K : PySem.W.Frag} {H H' : Hp} {a : Addr} {xs : List V} (e : Same H H') (h : SqT K H a xs) : SqT K H' a xs := by
  rcases h with h | h
  · exact Or.inl (same_rd e h)
  · exact Or.inr h
theorem same_l {K : PySem.W.Frag} {H H' : Hp} {a : Addr} {xs : List V} (e : Same H H') (h : SqL K H a xs) : SqL K H' a xs := e.seq h
theorem sql {K : PySem.W.Frag} {H : Hp} {a : Addr} {xs : List V} (h : H a = some (.lst xs)) : SqL K H a xs := Or.inl (Or.inl h)
theorem sqt {K : PySem.W.Frag} {H : Hp} {a : Addr} {xs : List V} (h : H a = some (.tup xs)) : SqT K H a xs := Or.inl (Or.inl h)
theorem sz {n : Nat} (h : n ≤ 1000000) : n ≤ sizeLine := Nat.le_trans h (by decide)
theorem szl {n : Nat} (h : n < 1000000) : n < sizeLine := Nat.lt_of_lt_of_le h (by decide)
theorem sz_1 {a0 : V} : [a0].length ≤ sizeLine := by show 1 ≤ sizeLine; decide
theorem sz_2 {a0 a1 : V} : [a0, a1].length ≤ sizeLine := by show 2 ≤ sizeLine; decide
theorem sz_3 {a0 a1 a2 : V} : [a0, a1, a2].length ≤ sizeLine := by show 3 ≤ sizeLine; decide
theorem sz_4 {a0 a1 a2 a3 : V} : [a0, a1, a2, a3].length ≤ sizeLine := by show 4 ≤ sizeLine; decide
theorem sz_5 {a0 a1 a2 a3 a4 : V} : [a0, a1, a2, a3, a4].length ≤ sizeLine := by show 5 ≤ sizeLine; decide
theorem sz_6 {a0 a1 a2 a3 a4 a5 : V} : [a0, a1, a2, a3, a4, a5].length ≤ sizeLine := by show 6 ≤ sizeLine; decide
theorem sz_7 {a0 a1 a2 a3 a4 a5 a6 : V} : [a0, a1, a2, a3, a4, a5, a6].length ≤ sizeLine := by show 7 ≤ sizeLine; decide
theorem sz_8 {a0 a1 a2 a3 a4 a5 a6 a7 : V} : [a0, a1, a2, a3, a4, a5, a6, a7].length ≤ sizeLine := by show 8 ≤ sizeLine; decide
/-- all but r is as it was -/
def SameX (r : Addr) (H H' : Hp) : Prop := ∀ b o, b ≠ r → H b = some o → H' b = some o
theorem SameX.refl (r : Addr) (H : Hp) : SameX r H H := fun _ _ _ h => h
theorem SameX.trans {r : Addr} {H H1 H2 : Hp} (a : SameX r H H1) (b : SameX r H1 H2) : SameX r H H2 := fun c o n h => b c o n (a c o n h)
theorem SameX.of {r : Addr} {H H' : Hp} (a : Same H H') : SameX r H H' := fun c o _ h => a c o h
theorem SameX.upd {r : Addr} {H : Hp} {o : HO} : SameX r H (upd H r o) := fun c u n h => by
  rw [upd_ne n]
  exact h
theorem SameX.rd {r : Addr} {H H' : Hp} {a : Addr} {u : HO} (e : SameX r H H') (n : a ≠ r) (h : Rd H a u) : Rd H' a u := by
  rcases h with h | ⟨o, h⟩
  · exact Or.inl (e a _ n h)
  · exact Or.inr ⟨o, e a _ n h⟩
/-- r is a list: no tuple lies there -/
def LstAt (H : Hp) (r : Addr) : Prop := ∃ xs, H r = some (.lst xs)
theorem ne_tup {H : Hp} {a r : Addr} {xs : List V} (h : Rd H a (.tup xs)) (l : LstAt H r) : a ≠ r := by
  obtain ⟨ys, l⟩ := l
  intro e
  subst e
  rcases h with h | ⟨o, h⟩
  · rw [l] at h; cases h
  · rw [l] at h; cases h
theorem SameX.t {K : PySem.W.Frag} {r : Addr} {H H' : Hp} {a : Addr} {xs : List V} (e : SameX r H H') (l : LstAt H r) (h : SqT K H a xs) : SqT K H' a xs := by
  rcases h with h | h
  · exact Or.inl (e.rd (ne_tup h l) h)
  · exact Or.inr h
/-! ### kinds of values -/
theorem tyx_T {K : PySem.W.Frag} {H : Hp} {a : Addr} {xs : List V} (h : SqT K H a xs) : TyX K H (.ref a) (.type "tuple") := by
  rcases h with (h | ⟨o, h⟩) | ⟨o, its, n, h, c, _⟩
  · exact .base (.tup h)
  · exact .fTuple h
  · exact .kTuple h c
theorem tyx_L {K : PySem.W.Frag} {H : Hp} {a : Addr} {xs : List V} (h : SqL K H a xs) : TyX K H (.ref a) (.type "list") := by
  rcases h with (h | ⟨o, h⟩) | ⟨o, its, n, h, c, _⟩
  · exact .base (.lst h)
  · exact .base (.frz h)
  · exact .kList h c
/-! ### guessers -/
inductive G where
  | nil
  | leaf (w : Str) (ns : List Int)
  | b1 (a : G)
  | both (a b : G)
  | b3 (a b c : G)
def IsG (K : PySem.W.Frag) (H : Hp) : G → V → Prop
  | .nil, v => ∃ p, v = .ref p ∧ SqT K H p []
  | .leaf w ns, v => ∃ p, v = .ref p ∧ SqT K H p (.str w :: ns.map V.int)
  | .b1 a, v => ∃ p x, v = .ref p ∧ SqT K H p [.str "both", x] ∧ IsG K H a x
  | .both a b, v => ∃ p x y, v = .ref p ∧ SqT K H p [.str "both", x, y] ∧ IsG K H a x ∧ IsG K H b y
  | .b3 a b c, v => ∃ p x y z, v = .ref p ∧ SqT K H p [.str "both", x, y, z] ∧ IsG K H a x ∧ IsG K H b y ∧ IsG K H c z
theorem IsG.mono {K : PySem.W.Frag} {H H' : Hp} (f : ∀ a xs, SqT K H a xs → SqT K H' a xs) : ∀ {g : G} {v : V}, IsG K H g v → IsG K H' g v
  | .nil, _, ⟨p, e, h⟩ => ⟨p, e, f _ _ h⟩
  | .leaf _ _, _, ⟨p, e, h⟩ => ⟨p, e, f _ _ h⟩
  | .b1 _, _, ⟨p, x, e, h, ha⟩ => ⟨p, x, e, f _ _ h, ha.mono f⟩
  | .both _ _, _, ⟨p, x, y, e, h, ha, hb⟩ => ⟨p, x, y, e, f _ _ h, ha.mono f, hb.mono f⟩
  | .b3 _ _ _, _, ⟨p, x, y, z, e, h, ha, hb, hc⟩ => ⟨p, x, y, z, e, f _ _ h, ha.mono f, hb.mono f, hc.mono f⟩
theorem IsG.same {K : PySem.W.Frag} {H H' : Hp} {g : G} {v : V} (h : IsG K H g v) (e : Same H H') : IsG K H' g v := h.mono fun _ _ => same_t e
theorem IsG.sameX {K : PySem.W.Frag} {H H' : Hp} {g : G} {v : V} {r : Addr} (h : IsG K H g v) (e : SameX r H H') (l : LstAt H r) : IsG K H' g v := h.mono fun _ _ => e.t l
/-- a word's length; how great its number may be -/
def sortsL : List (Str × Int) := [("none", 1), ("next", 2), ("stride", 2), ("pairs", 2), ("both", 3)]
def mostL : List (Str × Int) := [("next", 3), ("stride", 3), ("pairs", 2)]
/-- the words of the leaves are not both -/
def WfG : G → Prop
  | .nil => True
  | .leaf s _ => s ≠ ("both" : Str)
  | .b1 a => WfG a
  | .both a b => WfG a ∧ WfG b
  | .b3 a b c => WfG a ∧ WfG b ∧ WfG c
def numOk (s : Str) : List Int → Bool
  | [] => false
  | n :: _ => (match mostL.lookup s with
    | some m => decide (1 ≤ n) && decide (n ≤ m)
    | none => false)
/-- what is_guesser tells -/
def isG : Nat → G → Bool
  | _, .nil => false
  | w, .leaf s ns => (match sortsL.lookup s with
      | none => false
      | some k => decide (((ns.length : Nat) : Int) + 1 = k) && decide (w ≤ 3) && (decide (s = "none") || numOk s ns))
  | _, .b1 _ => false
  | w, .both a b => decide (w ≤ 3) && (isG (w + 1) a && isG (w + 1) b)
  | _, .b3 _ _ _ => false
/-- a guesser, w bothes left -/
def good : Nat → G → Bool
  | _, .nil => false
  | _, .leaf w ns => decide (w = "none" ∧ ns = []) || (match ns with
      | [n] => decide ((w = "next" ∧ 1 ≤ n ∧ n ≤ 3) ∨ (w = "stride" ∧ 1 ≤ n ∧ n ≤ 3) ∨ (w = "pairs" ∧ 1 ≤ n ∧ n ≤ 2))
      | _ => false)
  | _, .b1 _ => false
  | 0, .both _ _ => false
  | n + 1, .both a b => good n a && good n b
  | _, .b3 _ _ _ => false
/-! ### what the law draws from -/
/-- tuples and known things stay -/
structure Imm (H H' : Hp) : Prop where
  tup : ∀ b xs, H b = some (.tup xs) → H' b = some (.tup xs)
  frz : ∀ b o u, ((∃ xs, u = .tup xs) ∨ ∃ xs, u = .lst xs) → H b = some (.frz o u) → H' b = some (.frz o u)
theorem Imm.refl (H : Hp) : Imm H H := ⟨fun _ _ h => h, fun _ _ _ _ h => h⟩
theorem Imm.trans {H H1 H2 : Hp} (a : Imm H H1) (b : Imm H1 H2) : Imm H H2 := ⟨fun c xs h => b.tup c xs (a.tup c xs h), fun c o u k h => b.frz c o u k (a.frz c o u k h)⟩
theorem Imm.same {H H' : Hp} (e : Same H H') : Imm H H' := ⟨fun c xs h => e c _ h, fun c o u _ h => e c _ h⟩
theorem Imm.sameX {r : Addr} {H H' : Hp} (e : SameX r H H') (l : LstAt H r) : Imm H H' := by
  obtain ⟨ys, l⟩ := l
  exact ⟨fun c xs h => e c _ (fun z => by subst z; rw [l] at h; cases h) h, fun c o u _ h => e c _ (fun z => by subst z; rw [l] at h; cases h) h⟩
theorem Imm.upd {r : Addr} {H : Hp} {o : HO} (l : LstAt H r) : Imm H (upd H r o) := Imm.sameX SameX.upd l
theorem Imm.t {K : PySem.W.Frag} {H H' : Hp} {a : Addr} {xs : List V} (e : Imm H H') (h : SqT K H a xs) : SqT K H' a xs := by
  rcases h with (h | ⟨o, h⟩) | h
  · exact .inl (.inl (e.tup _ _ h))
  · exact .inl (.inr ⟨o, e.frz _ _ _ (.inl ⟨_, rfl⟩) h⟩)
  · exact .inr h
theorem IsG.imm {K : PySem.W.Frag} {H H' : Hp} {g : G} {v : V} (h : IsG K H g v) (e : Imm H H') : IsG K H' g v := h.mono fun _ _ => e.t
/-- the script: known to the object, or of the module -/
def Sc (K : PySem.W.Frag) (H : Hp) (a : Addr) (xs : List V) : Prop := (∃ o, H a = some (.frz o (.lst xs))) ∨
    ∃ (o : Obj) (its : Array Value) (n : Nat), K.lookup a = some o ∧ o.cls = .type "list" ∧ o.dict = none ∧ o.data = .seq its n ∧ its.size ≤ sizeLine ∧ Vals xs its.toList
theorem Sc.sql {K : PySem.W.Frag} {H : Hp} {a : Addr} {xs : List V} (h : Sc K H a xs) : SqL K H a xs := by
  rcases h with h | h
  · exact .inl (.inr h)
  · exact .inr h
theorem Sc.imm {K : PySem.W.Frag} {H H' : Hp} {a : Addr} {xs : List V} (h : Sc K H a xs) (e : Imm H H') : Sc K H' a xs := by
  rcases h with ⟨o, h⟩ | h
  · exact .inl ⟨o, e.frz _ _ _ (.inr ⟨_, rfl⟩) h⟩
  · exact .inr h
theorem Sc.of {K : PySem.W.Frag} {H : Hp} {a : Addr} {xs : List V} (O : Only H) (h : SqL K H a xs) : Sc K H a xs := by
  rcases h with (h | h) | h
  · rcases O a with z | ⟨o, ys, z⟩
    · rw [z] at h; cases h
    · rw [z] at h; cases h
  · exact .inl h
  · exact .inr h
/-- the law's row: the script, the next place, the mixed number -/
def Row (K : PySem.W.Frag) (H : Hp) (r : Addr) : Prop := ∃ (sc : Addr) (ns : List Int) (i s : Int), H r = some (.lst [.ref sc, .int i, .int s]) ∧ Sc K H sc (ns.map V.int) ∧ 0 ≤ i
theorem Row.at_ {K : PySem.W.Frag} {H : Hp} {r : Addr} (h : Row K H r) : LstAt H r := by
  obtain ⟨sc, ns, i, s, h, _⟩ := h
  exact ⟨_, h⟩
theorem Row.imm {K : PySem.W.Frag} {H H' : Hp} {r : Addr} (h : Row K H r) (e : Imm H H') (er : H' r = H r) : Row K H' r := by
  obtain ⟨sc, ns, i, s, h, hs, h0⟩ := h
  exact ⟨sc, ns, i, s, er.trans h, hs.imm e, h0⟩
theorem Row.same {K : PySem.W.Frag} {H H' : Hp} {r : Addr} (h : Row K H r) (e : Same H H') : Row K H' r := by
  obtain ⟨sc, ns, i, s, h, hs, h0⟩ := h
  exact ⟨sc, ns, i, s, e _ _ h, hs.imm (Imm.same e), h0⟩
theorem Row.upd {K : PySem.W.Frag} {H : Hp} {r D : Addr} {o : HO} (h : Row K H r) (l : LstAt H D) (n : D ≠ r) : Row K (upd H D o) r := h.imm (Imm.upd l) (upd_ne n.symm)
/-- what a draw promises -/
def spTaken (K : PySem.W.Frag) : Sp := fun vs H Q _ => ∃ (r : Addr) (m : Int), vs = [.ref r, .int m] ∧ Row K H r ∧ 0 < m ∧
  ∀ (x : Int) H', 0 ≤ x → x < m → SameX r H H' → Row K H' r → Q (.int x) H'
end St
namespace St
open PySem PySem.Spec PyProof.Rows L2
/-- the law's own guessers: within w others -/
def spGuesser (K : PySem.W.Frag) (n : Nat) : Sp := fun vs H Q _ => ∃ (r : Addr) (w : Nat), vs = [.ref r, .int (w : Int)] ∧ w < n ∧ Row K H r ∧
  ∀ (g : G) (v : V) H', SameX r H H' → Row K H' r → IsG K H' g v → good w g = true → Q v H'
theorem fn_zero {P : Program} {w : World} {K : PySem.W.Frag} {mg : Str → Option Value} {base : Heap} {CX : CXT} {k : Nat} {f : Addr} {fd : FuncData} {ps : List Str} {sp : Sp} (no : ∀ vs H Q E, ¬ sp vs H Q E) : FnOk P w K mg base CX k f fd ps sp :=
  ⟨fun vs H Q E h => absurd h (no vs H Q E), fun A outer s H args us vs Q E _ _ _ _ h => absurd h (no vs H Q E)⟩
theorem good_none (w : Nat) : good w (.leaf "none" []) = true := by unfold good; simp
theorem good_next {w : Nat} {n : Int} (h1 : 1 ≤ n) (h2 : n ≤ 3) : good w (.leaf "next" [n]) = true := by unfold good; simp [h1, h2]
theorem good_stride {w : Nat} {n : Int} (h1 : 1 ≤ n) (h2 : n ≤ 3) : good w (.leaf "stride" [n]) = true := by unfold good; simp [h1, h2]
theorem good_pairs {w : Nat} {n : Int} (h1 : 1 ≤ n) (h2 : n ≤ 2) : good w (.leaf "pairs" [n]) = true := by unfold good; simp [h1, h2]
end St
namespace St
open PySem PySem.Spec PyProof.Rows L2
theorem Row.nr {K : PySem.W.Frag} {H : Hp} {r p : Addr} (h : Row K H r) (np : H p = none) : p ≠ r := by
  obtain ⟨ys, hy⟩ := h.at_
  exact (ne_of_none hy np).symm
end St

/-! ### written dicts of numbers by texts -/
namespace St
open PySem PySem.Spec PyProof.Rows L2
def EntIs (p : Value × Value) (kv : Str × Int) : Prop := (∃ t, p.1 = .str kv.1 t) ∧ ∃ t, p.2 = .int kv.2 t
structure IDict (K : PySem.W.Frag) (w : World) (d : Addr) (kvs : List (Str × Int)) : Prop where
  ex : ∃ es n, KDict K w d es n ∧ Paired EntIs (es.toList.map fun e => (e.key, e.val)) kvs
theorem isStr_str (x z : Str) (t : Tok) : (Value.str x t).isStr z = (z == x) := by
  show (x == z) = (z == x)
  by_cases e : x = z
  · subst e; rfl
  · rw [beq_eq_false_iff_ne.mpr e, beq_eq_false_iff_ne.mpr (Ne.symm e)]
theorem find_ent (z : Str) : ∀ {es : List DictEntry} {kvs : List (Str × Int)}, Paired EntIs (es.map fun e => (e.key, e.val)) kvs →
    (kvs.lookup z = none ∧ es.find? (·.key.isStr z) = none ∧ es.any (·.refKey) = false) ∨ ∃ e n t, kvs.lookup z = some n ∧ es.find? (·.key.isStr z) = some e ∧ e.val = .int n t
  | [], [], .nil => .inl ⟨rfl, rfl, rfl⟩
  | e :: es, (k, n) :: kvs, .cons ⟨⟨t, h1⟩, ⟨t2, h2⟩⟩ r => by
    simp only at h1 h2
    by_cases c : z = k
    · subst c
      refine .inr ⟨e, n, t2, by simp [List.lookup], ?_, h2⟩
      rw [List.find?_cons, h1, isStr_str]
      simp
    · have c1 : (z == k) = false := beq_eq_false_iff_ne.mpr c
      rcases find_ent z r with ⟨a, b, d⟩ | ⟨e', n', t', a, b, d⟩
      · refine .inl ⟨by simp [List.lookup, c1, a], ?_, ?_⟩
        · rw [List.find?_cons, h1, isStr_str, c1]; exact b
        · rw [List.any_cons, d]
          have : e.refKey = false := by unfold DictEntry.refKey; rw [h1] <;> rfl
          rw [this]; rfl
      · refine .inr ⟨e', n', t', by simp [List.lookup, c1, a], ?_, d⟩
        rw [List.find?_cons, h1, isStr_str, c1]; exact b
theorem IDict.ns {K : PySem.W.Frag} {w : World} {d : Addr} {kvs : List (Str × Int)} (D : IDict K w d kvs) (z : Str) :
    (kvs.lookup z = none ∧ PySem.W.nsIn K d z = some none) ∨ ∃ n t, kvs.lookup z = some n ∧ PySem.W.nsIn K d z = some (some (.int n t)) := by
  obtain ⟨es, n, D, p⟩ := D.ex
  unfold PySem.W.nsIn
  rw [D.at_]
  rcases find_ent z p with ⟨a, b, c⟩ | ⟨e, n', t, a, b, c⟩
  · refine .inl ⟨a, ?_⟩
    simp only [b, c]
    rfl
  · refine .inr ⟨n', t, a, ?_⟩
    simp only [b, c]
section
variable {X : Cx} {d : Addr} {kvs : List (Str × Int)}
def rInI (d : Addr) (kvs : List (Str × Int)) : R2 := fun x y H Q => ∃ z, x = .str z ∧ y = .ref d ∧ Q (.bl (kvs.lookup z).isSome) H
def rNotInI (d : Addr) (kvs : List (Str × Int)) : R2 := fun x y H Q => ∃ z, x = .str z ∧ y = .ref d ∧ Q (.bl (!(kvs.lookup z).isSome)) H
def rIxI (d : Addr) (kvs : List (Str × Int)) : R2 := fun x y H Q => ∃ z n, x = .ref d ∧ y = .str z ∧ kvs.lookup z = some n ∧ Q (.int n) H
theorem op_in_id (D : IDict X.K X.w d kvs) : OpR X (compareOp .In) (rInI d kvs) := by
  obtain ⟨es, n, KD, _⟩ := D.ex
  intro pins s σ H x y v u Q I rx ry ⟨z, h1, h2, q⟩
  rcases D.ns z with ⟨a, b⟩ | ⟨m, t, a, b⟩
  · rw [a] at q
    exact op_in_kd KD pins s σ H x y v u Q I rx ry ⟨z, _, h1, h2, b, q⟩
  · rw [a] at q
    exact op_in_kd KD pins s σ H x y v u Q I rx ry ⟨z, _, h1, h2, b, q⟩
theorem op_notIn_id (D : IDict X.K X.w d kvs) : OpR X (compareOp .NotIn) (rNotInI d kvs) := by
  obtain ⟨es, n, KD, _⟩ := D.ex
  intro pins s σ H x y v u Q I rx ry ⟨z, h1, h2, q⟩
  rcases D.ns z with ⟨a, b⟩ | ⟨m, t, a, b⟩
  · rw [a] at q
    exact op_notIn_kd KD pins s σ H x y v u Q I rx ry ⟨z, _, h1, h2, b, q⟩
  · rw [a] at q
    exact op_notIn_kd KD pins s σ H x y v u Q I rx ry ⟨z, _, h1, h2, b, q⟩
theorem ix_id (D : IDict X.K X.w d kvs) : IxR X (rIxI d kvs) := by
  obtain ⟨es, nn, KD, _⟩ := D.ex
  intro value slice pins s σ H x y v u Q I rx ry ⟨z, m, h1, h2, h3, q⟩ hs
  rcases D.ns z with ⟨a, b⟩ | ⟨m', t, a, b⟩
  · rw [a] at h3; cases h3
  · rw [a] at h3; cases h3
    exact ix_kdict value slice pins s σ H x y v u Q I rx ry ⟨d, z, .int m, h1, h2, ⟨es, nn, _, KD.at_, KD.lit, b, ⟨t, rfl⟩⟩, q⟩ hs
end
theorem iteY {c A B : Prop} [Decidable c] (h : c) (a : A) : if c then A else B := by rw [if_pos h]; exact a
theorem iteN {c A B : Prop} [Decidable c] (h : ¬ c) (b : B) : if c then A else B := by rw [if_neg h]; exact b
theorem iteB {b : Bool} {A B : Prop} (e : b = true) (a : A) : if b = true then A else B := by rw [if_pos e]; exact a
theorem iteB0 {b : Bool} {A B : Prop} (e : b = false) (a : B) : if b = true then A else B := by rw [e, if_neg Bool.false_ne_true]; exact a
/-- the guessers' tables -/
structure Tab (K : PySem.W.Frag) (w : World) (mg : Str → Option Value) (dS dM : Addr) : Prop where
  g_SORTS : mg "SORTS" = some (.ref dS)
  i_SORTS : IDict K w dS sortsL
  g_MOST_OF : mg "MOST_OF" = some (.ref dM)
  i_MOST_OF : IDict K w dM mostL
  g_MOST_WITHIN : ∃ t, mg "MOST_WITHIN" = some (.int 3 t)
def spIs (K : PySem.W.Frag) (n : Nat) : Sp := fun vs H Q _ => ∃ (v : V) (g : G) (w : Nat), vs = [v, .int (w : Int)] ∧ IsG K H g v ∧ WfG g ∧ w ≤ 4 ∧ 5 ≤ w + n ∧ ∀ H', Same H H' → Q (.bl (isG w g)) H'
end St
namespace St
open PySem PySem.Spec PyProof.Rows L2
section
variable {X : Cx}
theorem pe_gref {x : Str} {a : Addr} {pos : Pos} (hg : Gl X x) (hm : X.mg x = some (.ref a)) (hd : (x == ("__debug__" : Str)) = false := by decide) : PE X (.Name x pos) (tC (.ref a)) := pe_glob hg hm (v := .ref a) rfl hd
theorem pe_gint {x : Str} {i : Int} {pos : Pos} (hg : Gl X x) (hm : ∃ t, X.mg x = some (.int i t)) (hd : (x == ("__debug__" : Str)) = false := by decide) : PE X (.Name x pos) (tC (.int i)) := by
  obtain ⟨t, hm⟩ := hm
  exact pe_glob hg hm (v := .int i) ⟨t, rfl⟩ hd
theorem pe_gstr {x : Str} {i : Str} {pos : Pos} (hg : Gl X x) (hm : ∃ t, X.mg x = some (.str i t)) (hd : (x == ("__debug__" : Str)) = false := by decide) : PE X (.Name x pos) (tC (.str i)) := by
  obtain ⟨t, hm⟩ := hm
  exact pe_glob hg hm (v := .str i) ⟨t, rfl⟩ hd
end
end St
namespace St
open PySem PySem.Spec PyProof.Rows L2
theorem sorts_cases {z : Str} {k : Int} (h : sortsL.lookup z = some k) : (z = "none" ∧ k = 1) ∨ (z = "next" ∧ k = 2) ∨ (z = "stride" ∧ k = 2) ∨ (z = "pairs" ∧ k = 2) ∨ (z = "both" ∧ k = 3) := by
  unfold sortsL at h
  simp only [List.lookup] at h
  repeat' split at h
  all_goals first | (cases h; done) | skip
  all_goals (rename_i e; have e' := eq_of_beq e; cases h; simp [e'])
theorem sorts_most {z : Str} {k : Int} (h : sortsL.lookup z = some k) (h1 : z ≠ ("none" : Str)) (h2 : z ≠ ("both" : Str)) : k = 2 ∧ ∃ m, mostL.lookup z = some m := by
  rcases sorts_cases h with ⟨e, _⟩ | ⟨rfl, e⟩ | ⟨rfl, e⟩ | ⟨rfl, e⟩ | ⟨e, _⟩
  · exact absurd e h1
  · exact ⟨e, 3, rfl⟩
  · exact ⟨e, 3, rfl⟩
  · exact ⟨e, 2, rfl⟩
  · exact absurd e h2
end St
/-! ### data of any depth -/
namespace St
open PySem PySem.Spec PyProof.Rows L2
theorem dmono {K : PySem.W.Frag} {H H' : Hp} (fL : ∀ a xs, SqL K H a xs → SqL K H' a xs) (fT : ∀ a xs, SqT K H a xs → SqT K H' a xs) {v : V} {d : PyData} (h : Dp K H v d) : Dp K H' v d := by
  refine Dp.rec (motive_1 := fun v d _ => Dp K H' v d) (motive_2 := fun vs ds _ => DpAll K H' vs ds) ?_ ?_ ?_ ?_ ?_ ?_ ?_ ?_ h
  · exact .non
  · exact fun b => .bl b
  · exact fun i => .int i
  · exact fun x => .str x
  · exact fun h _ ih => .lst (fL _ _ h) ih
  · exact fun h _ ih => .tup (fT _ _ h) ih
  · exact .nil
  · exact fun _ _ a b => .cons a b
theorem dsame {K : PySem.W.Frag} {H H' : Hp} {v : V} {d : PyData} (h : Dp K H v d) (e : Same H H') : Dp K H' v d := dmono (fun _ _ => same_l e) (fun _ _ => same_t e) h
theorem dsameA {K : PySem.W.Frag} {H H' : Hp} (e : Same H H') : ∀ {vs : List V} {ds : List PyData}, DpAll K H vs ds → DpAll K H' vs ds
  | _, _, .nil => .nil
  | _, _, .cons a b => .cons (dsame a e) (dsameA e b)
theorem dlen {K : PySem.W.Frag} {H : Hp} : ∀ {vs : List V} {ds : List PyData}, DpAll K H vs ds → vs.length = ds.length
  | _, _, .nil => rfl
  | _, _, .cons _ b => congrArg (· + 1) (dlen b)
theorem dat {K : PySem.W.Frag} {H : Hp} : ∀ {vs : List V} {ds : List PyData} {i : Nat} {d : PyData}, DpAll K H vs ds → ds[i]? = some d → ∃ v, vs[i]? = some v ∧ Dp K H v d
  | _, _, 0, _, .cons a _, e => ⟨_, rfl, by cases Option.some.inj e; exact a⟩
  | _, _, i + 1, _, .cons _ b, e => dat (i := i) b e
/-- how deep -/
def dep : Nat → PyData → Prop
  | 0, _ => False
  | n + 1, .list ds => ds.length ≤ 100000 ∧ ∀ d ∈ ds, dep n d
  | n + 1, .tuple ds => ds.length ≤ 100000 ∧ ∀ d ∈ ds, dep n d
  | _ + 1, _ => True
def spAlike (K : PySem.W.Frag) (n : Nat) : Sp := fun vs H Q _ => ∃ (v1 v2 : V) (d : PyData), vs = [v1, v2] ∧ Dp K H v1 d ∧ Dp K H v2 d ∧ dep n d ∧ ∀ H', Same H H' → Q (.bl true) H'
theorem tup_list {K : PySem.W.Frag} {T : String} (h : T = "tuple" ∨ T = "list") : PySem.W.kitAny K (.type T) [.type "tuple", .type "list"] = some true := by
  rcases h with rfl | rfl
  · exact kitAny_cons (kit_ty (r := true) (by decide +kernel)) (fun h => nomatch h) fun _ => rfl
  · exact kitAny_cons (kit_ty (r := false) (by decide +kernel)) (fun _ => kitAny_cons (kit_ty (r := true) (by decide +kernel)) (fun h => nomatch h) fun _ => rfl) fun h => nomatch h
end St
/-! ### rules for within a comprehension: the frag is told -/
namespace St
open PySem PySem.Spec PyProof.Rows L2
section
variable {X : Cx} {K : PySem.W.Frag}
theorem ix_listK (h : X.K = K := by rfl) : IxR X (rIxL K) := h ▸ ix_list
theorem ix_tupK (h : X.K = K := by rfl) : IxR X (rIxT K) := h ▸ ix_tup
theorem ix_seqK (h : X.K = K := by rfl) : IxR X (rIx K) := h ▸ ix_seq
def rLen (K : PySem.W.Frag) : List V → Hp → VK → Prop := fun xs H Q => ∃ p ys, xs = [.ref p] ∧ (SqL K H p ys ∨ SqT K H p ys) ∧ Q (.int ys.length) H
theorem call_lenK (h : X.K = K := by rfl) : CallR X (.builtin "len") (rLen K) := h ▸ call_len_seq
theorem in_seqK (h : X.K = K := by rfl) : OpR X (compareOp .In) (rIn K false) := h ▸ op_in_seq
theorem notIn_seqK (h : X.K = K := by rfl) : OpR X (compareOp .NotIn) (rIn K true) := h ▸ op_notIn_seq
end
end St

local macro_rules
  | `(tactic| infer_instance) => `(tactic| first
    | assumption
    | exact L2.upd_same
    | (refine St.same_upd (by assumption) _ _ ?_; infer_instance)
    | (refine (show L2.Same _ _ by assumption) _ _ ?_; infer_instance)
    | (refine (show St.SameX _ _ _ by assumption) _ _ (by assumption) ?_; infer_instance)
    | (refine Or.inl (Or.inl ?_); infer_instance))
local macro_rules
  | `(tactic| and_intros) => `(tactic| repeat (first
    | refine ⟨_, rfl, ?_⟩
    | refine ⟨rfl, ?_⟩
    | refine ⟨_, _, rfl, rfl, ?_⟩
    | refine ⟨_, _, _, _, rfl, rfl, (by infer_instance), (by first | rfl | exact L2.atI_nat (j := 0) rfl | exact L2.atI_nat (j := 1) rfl | exact L2.atI_nat (j := 2) rfl), ?_⟩
    | refine ⟨_, _, rfl, (by first | (refine Or.inl ?_; infer_instance) | (refine Or.inr ?_; infer_instance)), ?_⟩
    | refine ⟨_, _, rfl, (show L2.SqL _ _ _ _ by infer_instance), ?_⟩
    | refine ⟨_, _, _, _, true, rfl, L2.ClsV.ty _, (by assumption), L2.kit_ty (by decide +kernel), ?_⟩
    | refine ⟨_, _, _, _, false, rfl, L2.ClsV.ty _, (by assumption), L2.kit_ty (by decide +kernel), ?_⟩
    | refine And.intro (by first | decide | with_reducible exact St.sz_1 | with_reducible exact St.sz_2 | with_reducible exact St.sz_3 | with_reducible exact St.sz_4 | with_reducible exact St.sz_5 | with_reducible exact St.sz_6 | with_reducible exact St.sz_7 | with_reducible exact St.sz_8 | assumption | omega | (refine Or.inr ?_; decide) | (show (_ : Int) < _; first | decide | assumption | omega) | exact Or.inr ⟨by decide, by decide⟩ | exact ⟨by decide, by decide⟩) ?_))
local macro_rules
  | `(tactic| ac_rfl) => `(tactic| first
    | assumption
    | exact L2.Same.refl _
    | exact St.SameX.refl _ _
    | (refine L2.Same.trans ?_ (St.same_upd (by assumption)); ac_rfl)
    | (refine St.SameX.trans ?_ (St.SameX.of (St.same_upd (by assumption))); ac_rfl)
    | (refine L2.Same.trans ?_ (show L2.Same _ _ by assumption); ac_rfl)
    | (refine St.SameX.trans ?_ (St.SameX.of (show L2.Same _ _ by assumption)); ac_rfl)
    | (refine St.SameX.trans ?_ (show St.SameX _ _ _ by assumption); ac_rfl))

namespace St
open PySem PySem.Spec PyProof.Rows L2
def topS (i : Nat) : Stmt := PySem.Challenge.pw_stridewell_k13_texts_that_tell_no_guesse.main.body.getD i (.Pass ⟨0, 0, 0, 0⟩)
end St

namespace St
open PySem PySem.Spec PyProof.Rows L2
abbrev s_is_guesser : Stmt := topS 11
abbrev N_is_guesser : List Str := ["guesser", "within"]
abbrev p_is_guesser : List Str := ["guesser", "within"]
theorem sc_is_guesser : FnScope N_is_guesser p_is_guesser (defScope s_is_guesser) := ⟨rfl, rfl, rfl, by decide +kernel, rfl, by decide +kernel, by decide +kernel⟩
abbrev s_need_guesser : Stmt := topS 12
abbrev N_need_guesser : List Str := ["guesser"]
abbrev p_need_guesser : List Str := ["guesser"]
theorem sc_need_guesser : FnScope N_need_guesser p_need_guesser (defScope s_need_guesser) := ⟨rfl, rfl, rfl, by decide +kernel, rfl, by decide +kernel, by decide +kernel⟩
section
variable {P : Program} {w : World} {K : PySem.W.Frag} {mg : Str → Option Value} {base : Heap} {f dS dM : Addr} {fd : FuncData}
theorem ok_is_guesser (T : Nms mg) (B : Tab K w mg dS dM) (D_is_guesser : Df K mg "is_guesser" s_is_guesser p_is_guesser f fd) : ∀ n : Nat, FnOk P w K mg base CX0 n f fd p_is_guesser (spIs K n)
  | 0 => fn_zero fun vs H Q E ⟨v, g, w, _, _, _, h, h2, _⟩ => by omega
  | n + 1 => by
    have G_is_guesser := ok_is_guesser T B D_is_guesser n
    refine D_is_guesser.F.ok sc_is_guesser (fun vs H Q E h => ?_) (fun cdv A outer s H vs Q E hr h => ?_)
    · obtain ⟨r, m, wi, rfl, _⟩ := h
      rfl
    obtain ⟨v, g, m, rfl, hG, hW, h4, h5, q⟩ := h
    refine ⟨_, (pss_cons (ps_if (PW.pt (pw_or (pt_cmpR op_eq (pe_callB call_len_seq (by rfl) T.n_len (by decide +kernel) (pa_cons (pv 0) pa_nil)) pe_int (nomark _)) (pw_or (pt_cmpR (op_notIn_id B.i_SORTS) (pe_ix ix_tup (pv 0) pe_int (fun _ _ => rfl)) (pe_gref (by rfl) B.g_SORTS) (by with_unfolding_all rfl)) (pw_or (pt_cmpR op_ne (pe_callB call_len_seq (by rfl) T.n_len (by decide +kernel) (pa_cons (pv 0) pa_nil)) (pe_ix (ix_id B.i_SORTS) (pe_gref (by rfl) B.g_SORTS) (pe_ix ix_tup (pv 0) pe_int (fun _ _ => rfl)) (fun _ _ => rfl)) (nomark _)) (pw_or1 (pt_cmpR op_gt (pv 1) (pe_gint (by rfl) B.g_MOST_WITHIN) (nomark _)))))))
    (pss_one (ps_ret pe_bl))
    (pss_nil))
  (pss_cons (ps_if (pt_cmpR op_eq (pe_ix ix_tup (pv 0) pe_int (fun _ _ => rfl)) pe_str (nomark _))
    (pss_one (ps_ret (pe_and (pe_call G_is_guesser (hr.mono (by first | decide | omega)) (by rfl) D_is_guesser.m D_is_guesser.F.kp D_is_guesser.b .nil pass0 (pa_cons (pe_ix ix_tup (pv 0) pe_int (fun _ _ => rfl)) (pa_cons (pe_op op_add (pv 1) pe_int) pa_nil))) (pe_one (pe_call G_is_guesser (hr.mono (by first | decide | omega)) (by rfl) D_is_guesser.m D_is_guesser.F.kp D_is_guesser.b .nil pass0 (pa_cons (pe_ix ix_tup (pv 0) pe_int (fun _ _ => rfl)) (pa_cons (pe_op op_add (pv 1) pe_int) pa_nil)))))))
    (pss_nil))
  (pss_one (ps_ret (pe_or (pe_cmpR op_eq (pe_ix ix_tup (pv 0) pe_int (fun _ _ => rfl)) pe_str (nomark _)) (pe_one (pe_chain op_le op_le pe_int (pe_ix ix_tup (pv 0) pe_int (fun _ _ => rfl)) (pe_ix (ix_id B.i_MOST_OF) (pe_gref (by rfl) B.g_MOST_OF) (pe_ix ix_tup (pv 0) pe_int (fun _ _ => rfl)) (fun _ _ => rfl))))))))), ?_⟩
    cases g with
    | nil =>
      obtain ⟨p, rfl, hp⟩ := hG
      and_intros
      refine iteB (b := decide _) (decide_eq_true rfl) ?_
      exact q _ (Same.refl _)
    | leaf z ns =>
      obtain ⟨p, rfl, hp⟩ := hG
      have ez : ((.str z :: ns.map V.int : List V).length : Int) = (ns.length : Int) + 1 := by rw [List.length_cons, List.length_map]; rfl
      and_intros
      cases e : sortsL.lookup z with
      | none =>
        refine iteB rfl ?_
        refine iteB rfl ?_
        have q' := q H (Same.refl _)
        unfold isG at q'
        rw [e] at q'
        exact q'
      | some k =>
        refine iteB0 rfl ?_
        and_intros
        refine ⟨z, k, rfl, rfl, e, ?_⟩
        and_intros
        have q' : ∀ H', Same H H' → Q (V.bl (decide (((ns.length : Nat) : Int) + 1 = k) && decide (m ≤ 3) && (decide (z = "none") || numOk z ns))) H' := fun H' s => by
          have q' := q H' s
          unfold isG at q'
          rw [e] at q'
          exact q'
        by_cases c1 : ((ns.length : Nat) : Int) + 1 = k
        · rw [decide_eq_true c1] at q'
          refine iteB0 (by rw [ez, decide_eq_true (congrArg V.int c1)]; rfl) ?_
          and_intros
          by_cases c2 : m ≤ 3
          · rw [decide_eq_true c2] at q'
            refine iteB0 (decide_eq_false (by omega)) ?_
            and_intros
            refine iteB0 (decide_eq_false fun x => hW (V.str.inj x)) ?_
            and_intros
            by_cases c3 : z = "none"
            · rw [decide_eq_true c3] at q'
              refine iteB (decide_eq_true (congrArg V.str c3)) ?_
              exact q' _ (Same.refl _)
            · rw [decide_eq_false c3] at q'
              refine iteB0 (decide_eq_false fun x => c3 (V.str.inj x)) ?_
              obtain ⟨k2, mo, em⟩ := sorts_most e c3 hW
              obtain ⟨x, rfl⟩ : ∃ x, ns = [x] := by
                cases ns with
                | nil => rw [List.length_nil] at c1; omega
                | cons x r =>
                  cases r with
                  | nil => exact ⟨x, rfl⟩
                  | cons y r => rw [List.length_cons, List.length_cons] at c1; omega
              have eo : numOk z [x] = (decide (1 ≤ x) && decide (x ≤ mo)) := by unfold numOk; rw [em]
              rw [eo] at q'
              and_intros
              by_cases c4 : 1 ≤ x
              · refine iteB (decide_eq_true c4) ?_
                rw [decide_eq_true c4] at q'
                and_intros
                refine ⟨_, _, rfl, rfl, em, ?_⟩
                and_intros
                exact q' _ (Same.refl _)
              · refine iteB0 (decide_eq_false c4) ?_
                rw [decide_eq_false c4] at q'
                exact q' _ (Same.refl _)
          · rw [decide_eq_false c2] at q'
            refine iteB (decide_eq_true (by omega)) ?_
            exact q' _ (Same.refl _)
        · rw [decide_eq_false c1] at q'
          refine iteB (by rw [ez, decide_eq_false (fun e => c1 (V.int.inj e))]; rfl) ?_
          refine iteB rfl ?_
          exact q' _ (Same.refl _)
    | b1 a =>
      obtain ⟨p, x, rfl, hp, ha⟩ := hG
      and_intros
      refine ⟨_, 3, rfl, rfl, rfl, ?_⟩
      and_intros
      exact q _ (Same.refl _)
    | b3 a b c =>
      obtain ⟨p, x, y, z, rfl, hp, ha⟩ := hG
      and_intros
      refine ⟨_, 3, rfl, rfl, rfl, ?_⟩
      and_intros
      exact q _ (Same.refl _)
    | both a b =>
      obtain ⟨p, x, y, rfl, hp, ha, hb⟩ := hG
      and_intros
      refine ⟨_, 3, rfl, rfl, rfl, ?_⟩
      and_intros
      have q' : ∀ H', Same H H' → Q (V.bl (decide (m ≤ 3) && (isG (m + 1) a && isG (m + 1) b))) H' := q
      by_cases c2 : m ≤ 3
      · rw [decide_eq_true c2] at q'
        refine iteB0 (decide_eq_false (by omega)) ?_
        and_intros
        have ek : ∀ z : V, ([z, V.int ((m : Int) + 1)] : List V) = [z, V.int ((m + 1 : Nat) : Int)] := fun z => congrArg (fun i : Int => [z, V.int i]) (by omega)
        refine ⟨x, a, m + 1, ek _, ha, hW.1, by omega, by omega, fun H1 s1 => ?_⟩
        refine ⟨_, rfl, ?_⟩
        cases ea : isG (m + 1) a with
        | false =>
          refine iteN Bool.false_ne_true ?_
          rw [ea] at q'
          exact q' _ s1
        | true =>
          refine iteY rfl ?_
          rw [ea] at q'
          have hp1 := same_t s1 hp
          and_intros
          refine ⟨y, b, m + 1, ek _, hb.same s1, hW.2, by omega, by omega, fun H2 s2 => ?_⟩
          exact q' _ (s1.trans s2)
      · rw [decide_eq_false c2] at q'
        refine iteB (decide_eq_true (by omega)) ?_
        exact q' _ (Same.refl _)
theorem isG_good : ∀ (k : Nat) (g : G), good k g = true → k ≤ 3 → isG (3 - k) g = true ∧ WfG g
  | _, .nil, h, _ => by simp [good] at h
  | _, .b1 _, h, _ => by simp [good] at h
  | _, .b3 _ _ _, h, _ => by simp [good] at h
  | 0, .both _ _, h, _ => by simp [good] at h
  | k + 1, .both a b, h, hk => by
    have h' : (good k a && good k b) = true := h
    rw [Bool.and_eq_true] at h'
    have ha := isG_good k a h'.1 (by omega)
    have hb := isG_good k b h'.2 (by omega)
    have e : 3 - (k + 1) + 1 = 3 - k := by omega
    refine ⟨?_, ha.2, hb.2⟩
    show (decide (3 - (k + 1) ≤ 3) && (isG (3 - (k + 1) + 1) a && isG (3 - (k + 1) + 1) b)) = true
    rw [e, ha.1, hb.1, decide_eq_true (by omega)]
    rfl
  | k, .leaf w ns, h, _ => by
    unfold good at h
    rw [Bool.or_eq_true] at h
    rcases h with h | h
    · obtain ⟨rfl, rfl⟩ := of_decide_eq_true h
      refine ⟨?_, by show ("none" : Str) ≠ "both"; decide⟩
      show ((decide ((((0 : Nat)) : Int) + 1 = 1) && decide (3 - k ≤ 3)) && (decide (("none" : Str) = "none") || numOk "none" [])) = true
      rw [decide_eq_true (by omega : 3 - k ≤ 3)]
      rfl
    · cases ns with
      | nil => simp at h
      | cons n r =>
        cases r with
        | cons _ _ => simp at h
        | nil =>
          have h' := of_decide_eq_true h
          rcases h' with ⟨rfl, h1, h2⟩ | ⟨rfl, h1, h2⟩ | ⟨rfl, h1, h2⟩
          · refine ⟨?_, by show ("next" : Str) ≠ "both"; decide⟩
            show ((decide ((((1 : Nat)) : Int) + 1 = 2) && decide (3 - k ≤ 3)) && (decide (("next" : Str) = "none") || (decide (1 ≤ n) && decide (n ≤ 3)))) = true
            rw [decide_eq_true (by omega : 3 - k ≤ 3), decide_eq_true h1, decide_eq_true h2]
            simp
          · refine ⟨?_, by show ("stride" : Str) ≠ "both"; decide⟩
            show ((decide ((((1 : Nat)) : Int) + 1 = 2) && decide (3 - k ≤ 3)) && (decide (("stride" : Str) = "none") || (decide (1 ≤ n) && decide (n ≤ 3)))) = true
            rw [decide_eq_true (by omega : 3 - k ≤ 3), decide_eq_true h1, decide_eq_true h2]
            simp
          · refine ⟨?_, by show ("pairs" : Str) ≠ "both"; decide⟩
            show ((decide ((((1 : Nat)) : Int) + 1 = 2) && decide (3 - k ≤ 3)) && (decide (("pairs" : Str) = "none") || (decide (1 ≤ n) && decide (n ≤ 2)))) = true
            rw [decide_eq_true (by omega : 3 - k ≤ 3), decide_eq_true h1, decide_eq_true h2]
            simp
/-- of a good guesser nothing is refused -/
def spNeedG (K : PySem.W.Frag) : Sp := fun vs H Q _ => ∃ (v : V) (g : G), vs = [v] ∧ IsG K H g v ∧ good 3 g = true ∧ ∀ H', Same H H' → Q .non H'
theorem ok_need_guesser {f2 : Addr} {fd2 : FuncData} (T : Nms mg) (B : Tab K w mg dS dM) (D_is_guesser : Df K mg "is_guesser" s_is_guesser p_is_guesser f fd) (D_need_guesser : Df K mg "need_guesser" s_need_guesser p_need_guesser f2 fd2) : FnOk P w K mg base CX0 6 f2 fd2 p_need_guesser (spNeedG K) := by
  have G_is_guesser : FnOk P w K mg base CX0 5 f fd p_is_guesser (spIs K 5) := ok_is_guesser T B D_is_guesser 5
  refine D_need_guesser.F.ok sc_need_guesser (fun vs H Q E h => ?_) (fun cdv A outer s H vs Q E hr h => ?_)
  · obtain ⟨r, m, rfl, _⟩ := h
    rfl
  obtain ⟨v, g, rfl, hG, hg, q⟩ := h
  obtain ⟨hi, hW⟩ := isG_good 3 g hg (Nat.le_refl _)
  refine ⟨_, (pss_one (ps_if (pt_not (pt_val (pe_call G_is_guesser (hr.mono (by first | decide | omega)) (by rfl) D_is_guesser.m D_is_guesser.F.kp D_is_guesser.b .nil pass0 (pa_cons (pv 0) (pa_cons pe_int pa_nil)))))
    (pss_one (ps_never))
    (pss_nil))), ?_⟩
  and_intros
  refine ⟨v, g, 0, rfl, hG, hW, by omega, by omega, fun H1 s1 => ?_⟩
  and_intros
  rw [show isG 0 g = true from hi]
  exact q _ s1
end
end St

namespace St
open PySem PySem.Spec PyProof.Rows L2 TL
/-! ### the words of a guesser -/
def strN (n : Int) : Str := Str.ofString (toString n)
def wordsG : G → List Str
  | .leaf w ns => w :: ns.map strN
  | .both a b => "both" :: (wordsG a ++ wordsG b)
  | _ => []
theorem good_leaf {k : Nat} {w : Str} {ns : List Int} (h : good k (.leaf w ns) = true) : (w = "none" ∧ ns = []) ∨ ∃ n, ns = [n] ∧ (n = 1 ∨ n = 2 ∨ n = 3) ∧ (w = "next" ∨ w = "stride" ∨ w = "pairs") := by
  unfold good at h
  rw [Bool.or_eq_true] at h
  rcases h with h | h
  · exact .inl (of_decide_eq_true h)
  · cases ns with
    | nil => simp at h
    | cons n r =>
      cases r with
      | cons _ _ => simp at h
      | nil =>
        have h' := of_decide_eq_true h
        refine .inr ⟨n, rfl, ?_⟩
        rcases h' with ⟨rfl, h1, h2⟩ | ⟨rfl, h1, h2⟩ | ⟨rfl, h1, h2⟩
        · exact ⟨by omega, .inl rfl⟩
        · exact ⟨by omega, .inr (.inl rfl)⟩
        · exact ⟨by omega, .inr (.inr rfl)⟩
theorem len_app (x y : Str) : (x ++ y).length = x.length + y.length := by
  show (x ++ y).cps.size = x.cps.size + y.cps.size
  rw [show (x ++ y).cps = x.cps ++ y.cps from rfl, Array.size_append]
/-- how many signs and words -/
def wt (ws : List Str) : Nat := (ws.map (·.length)).sum + ws.length
theorem wt_append (a b : List Str) : wt (a ++ b) = wt a + wt b := by
  unfold wt
  rw [List.map_append, List.sum_append, List.length_append]
  omega
theorem wt_cons (a : Str) (b : List Str) : wt (a :: b) = a.length + 1 + wt b := by
  unfold wt
  rw [List.map_cons, List.sum_cons, List.length_cons]
  omega
theorem pow_ge (k : Nat) : 1 ≤ 2 ^ k := Nat.one_le_two_pow
theorem wt_words : ∀ (k : Nat) (g : G), good k g = true → wt (wordsG g) + 5 ≤ 14 * 2 ^ k
  | _, .nil, h => by simp [good] at h
  | _, .b1 _, h => by simp [good] at h
  | _, .b3 _ _ _, h => by simp [good] at h
  | 0, .both _ _, h => by simp [good] at h
  | k + 1, .both a b, h => by
    have h' : (good k a && good k b) = true := h
    rw [Bool.and_eq_true] at h'
    have ha := wt_words k a h'.1
    have hb := wt_words k b h'.2
    show wt ("both" :: (wordsG a ++ wordsG b)) + 5 ≤ 14 * 2 ^ (k + 1)
    rw [wt_cons, wt_append, Nat.pow_succ]
    have : ("both" : Str).length = 4 := rfl
    omega
  | k, .leaf w ns, h => by
    have p := pow_ge k
    have e : wt (wordsG (.leaf w ns)) ≤ 9 := by
      rcases good_leaf h with ⟨rfl, rfl⟩ | ⟨n, rfl, hn, hw⟩
      · decide
      · rcases hn with rfl | rfl | rfl <;> rcases hw with rfl | rfl | rfl <;> decide
    omega
theorem words_ne : ∀ (k : Nat) (g : G), good k g = true → wordsG g ≠ []
  | _, .nil, h => by simp [good] at h
  | _, .b1 _, h => by simp [good] at h
  | _, .b3 _ _ _, h => by simp [good] at h
  | _, .both _ _, _ => by unfold wordsG; simp
  | _, .leaf _ _, _ => by unfold wordsG; simp
theorem words_no32 : ∀ (k : Nat) (g : G), good k g = true → ∀ p ∈ wordsG g, (32 : Nat) ∉ tl p
  | _, .nil, h => by simp [good] at h
  | _, .b1 _, h => by simp [good] at h
  | _, .b3 _ _ _, h => by simp [good] at h
  | 0, .both _ _, h => by simp [good] at h
  | k + 1, .both a b, h => by
    have h' : (good k a && good k b) = true := h
    rw [Bool.and_eq_true] at h'
    intro p hp
    rcases List.mem_cons.mp (show p ∈ ("both" : Str) :: (wordsG a ++ wordsG b) from hp) with rfl | hp
    · decide
    · rcases List.mem_append.mp hp with hp | hp
      · exact words_no32 k a h'.1 p hp
      · exact words_no32 k b h'.2 p hp
  | k, .leaf w ns, h => by
    intro p hp
    rcases good_leaf h with ⟨rfl, rfl⟩ | ⟨n, rfl, hn, hw⟩
    · rcases List.mem_cons.mp (show p ∈ ("none" : Str) :: [] from hp) with rfl | hp
      · decide
      · cases hp
    · rcases List.mem_cons.mp (show p ∈ w :: [strN n] from hp) with rfl | hp
      · rcases hw with rfl | rfl | rfl <;> decide
      · rw [List.mem_singleton.mp hp]
        rcases hn with rfl | rfl | rfl <;> decide
/-! ### the text of a guesser, by the law -/
def textG : G → Str
  | .both a b => (((("both " : Str) ++ textG a) ++ (" " : Str)) ++ textG b)
  | g => Txt.join " " (wordsG g)
theorem joinL_append (S : List Nat) : ∀ (xs ys : List (List Nat)), xs ≠ [] → ys ≠ [] → joinL S (xs ++ ys) = joinL S xs ++ (S ++ joinL S ys)
  | [], _, h, _ => absurd rfl h
  | [x], y :: r, _, _ => rfl
  | [_], [], _, h => absurd rfl h
  | x :: z :: r, ys, _, h => by
    show x ++ (S ++ joinL S ((z :: r) ++ ys)) = (x ++ (S ++ joinL S (z :: r))) ++ (S ++ joinL S ys)
    rw [joinL_append S (z :: r) ys (by simp) h, List.append_assoc, List.append_assoc]
theorem str_ext {x y : Str} (h : tl x = tl y) : x = y := by
  obtain ⟨⟨a⟩⟩ := x
  obtain ⟨⟨b⟩⟩ := y
  have e : a = b := h
  rw [e]
theorem text_join : ∀ (k : Nat) (g : G), good k g = true → textG g = Txt.join " " (wordsG g)
  | _, .nil, h => by simp [good] at h
  | _, .b1 _, h => by simp [good] at h
  | _, .b3 _ _ _, h => by simp [good] at h
  | 0, .both _ _, h => by simp [good] at h
  | k + 1, .both a b, h => by
    have h' : (good k a && good k b) = true := h
    rw [Bool.and_eq_true] at h'
    have ha := text_join k a h'.1
    have hb := text_join k b h'.2
    have na := words_ne k a h'.1
    have nb := words_ne k b h'.2
    refine str_ext ?_
    show tl ((((("both " : Str) ++ textG a) ++ (" " : Str)) ++ textG b)) = _
    rw [ha, hb, tl_append, tl_append, tl_append, join_eq, join_eq, join_eq, tl_join, tl_join, tl_join]
    show _ = joinL (tl " ") (tl "both" :: (wordsG a ++ wordsG b).map tl)
    rw [List.map_append]
    have e := joinL_append (tl " ") [tl "both"] ((wordsG a).map tl ++ (wordsG b).map tl) (by simp) (by simp [na])
    rw [List.singleton_append] at e
    rw [e, joinL_append _ _ _ (by simpa using na) (by simpa using nb)]
    show (tl "both " ++ _ ++ tl " ") ++ _ = tl "both" ++ (tl " " ++ (_ ++ (tl " " ++ _)))
    rw [show tl ("both " : Str) = tl "both" ++ tl " " by decide]
    simp only [List.append_assoc]
  | _, .leaf _ _, _ => rfl
theorem join_len : ∀ (ws : List Str), (Txt.join " " ws).length ≤ wt ws := by
  intro ws
  rw [join_eq]
  induction ws with
  | nil => exact Nat.le_refl _
  | cons a r ih =>
    cases r with
    | nil =>
      rw [wt_cons]
      show a.length ≤ _
      omega
    | cons b r =>
      rw [wt_cons]
      show (a ++ " " ++ Str.join " " (b :: r)).length ≤ _
      rw [len_app, len_app]
      have : (" " : Str).length = 1 := rfl
      omega
theorem text_len {k : Nat} {g : G} (h : good k g = true) : (textG g).length + 5 ≤ 14 * 2 ^ k := by
  rw [text_join k g h]
  have a := join_len (wordsG g)
  have b := wt_words k g h
  omega
theorem read_back {k : Nat} {g : G} (h : good k g = true) : Txt.split (textG g) " " = wordsG g := by
  rw [text_join k g h]
  exact split_join (y := " ") (s := 32) (S := []) (by decide) (by decide +kernel) (words_ne k g h) (words_no32 k g h)
end St

namespace St
open PySem PySem.Spec PyProof.Rows L2 TL
abbrev s_part_at : Stmt := topS 15
abbrev N_part_at : List Str := ["words", "at", "one", "behind", "other"]
abbrev p_part_at : List Str := ["words", "at"]
theorem sc_part_at : FnScope N_part_at p_part_at (defScope s_part_at) := ⟨rfl, rfl, rfl, by decide +kernel, rfl, by decide +kernel, by decide +kernel⟩
abbrev s_read : Stmt := topS 16
abbrev N_read : List Str := ["text", "words", "found", "behind"]
abbrev p_read : List Str := ["text"]
theorem sc_read : FnScope N_read p_read (defScope s_read) := ⟨rfl, rfl, rfl, by decide +kernel, rfl, by decide +kernel, by decide +kernel⟩
theorem drop_hd {α : Type} {ws : List α} {k : Nat} {y : α} {r : List α} (h : ws.drop k = y :: r) : ws[k]? = some y ∧ k < ws.length ∧ ws.drop (k + 1) = r := by
  have hk : k < ws.length := by
    refine Nat.lt_of_not_le fun z => ?_
    rw [List.drop_eq_nil_of_le z] at h
    cases h
  rw [List.drop_eq_getElem_cons hk] at h
  injection h with h1 h2
  exact ⟨by rw [List.getElem?_eq_getElem hk, h1], hk, h2⟩
theorem at_str {ws : List Str} {k : Nat} {y : Str} (h : ws[k]? = some y) : atI (ws.map V.str) (k : Int) = some (.str y) := atI_nat (by rw [List.getElem?_map, h]; rfl)
theorem num_facts {m : Int} (h : m = 1 ∨ m = 2 ∨ m = 3) : (strN m).length = 1 ∧ (∃ c : Nat, strN m = ⟨#[c]⟩ ∧ c ∈ ("0123456789" : Str).cps.toList) ∧ intText? (strN m) = some m := by
  rcases h with rfl | rfl | rfl
  · exact ⟨by decide, ⟨49, by decide, by decide⟩, int_num (n := 1) (by decide)⟩
  · exact ⟨by decide, ⟨50, by decide, by decide⟩, int_num (n := 2) (by decide)⟩
  · exact ⟨by decide, ⟨51, by decide, by decide⟩, int_num (n := 3) (by decide)⟩
section
variable {P : Program} {w : World} {K : PySem.W.Frag} {mg : Str → Option Value} {base : Heap} {f dS dM fI fN : Addr} {fd fdI fdN : FuncData}
def spPart (K : PySem.W.Frag) (n : Nat) : Sp := fun vs H Q _ => ∃ (l : Addr) (k : Nat) (ws : List Str) (g : G) (d : Nat) (post : List Str), vs = [.ref l, .int (k : Int)] ∧ SqL K H l (ws.map V.str) ∧ ws.drop k = wordsG g ++ post ∧ good d g = true ∧ d < n ∧ d ≤ 3 ∧
  ∀ (p : Addr) (v : V) H', Same H H' → IsG K H' g v → H' p = some (.tup [v, .int ((k + (wordsG g).length : Nat) : Int)]) → Q (.ref p) H'
theorem ok_part_at (T : Nms mg) (B : Tab K w mg dS dM) (hF : ∃ t, mg "FIGURES" = some (.str "0123456789" t)) (D_part_at : Df K mg "part_at" s_part_at p_part_at f fd) : ∀ n : Nat, FnOk P w K mg base CX0 n f fd p_part_at (spPart K n)
  | 0 => fn_zero fun vs H Q E ⟨l, k, ws, g, d, post, _, _, _, _, h, _⟩ => by omega
  | n + 1 => by
    have G_part_at := ok_part_at T B hF D_part_at n
    refine D_part_at.F.ok sc_part_at (fun vs H Q E h => ?_) (fun cdv A outer s H vs Q E hr h => ?_)
    · obtain ⟨r, m, ws, g, d, post, rfl, _⟩ := h
      rfl
    obtain ⟨l, k, ws, g, d, post, rfl, hl, hd, hg, hdn, hd3, q⟩ := h
    refine ⟨_, (pss_cons (ps_if (PW.pt (pw_or (pt_cmpR op_ge (pv 1) (pe_callB call_len_seq (by rfl) T.n_len (by decide +kernel) (pa_cons (pv 0) pa_nil)) (nomark _)) (pw_or1 (pt_cmpR (op_notIn_id B.i_SORTS) (pe_ix ix_list (pv 0) (pv 1) (fun _ _ => rfl)) (pe_gref (by rfl) B.g_SORTS) (by with_unfolding_all rfl)))))
    (pss_one (ps_never))
    (pss_nil))
  (pss_cons (ps_if (pt_cmpR op_eq (pe_ix ix_list (pv 0) (pv 1) (fun _ _ => rfl)) pe_str (nomark _))
    (pss_one (ps_ret (pe_tup (pa_cons (pe_tup (pa_cons pe_str pa_nil)) (pa_cons (pe_op op_add (pv 1) pe_int) pa_nil)))))
    (pss_nil))
  (pss_cons (ps_if (pt_cmpR op_eq (pe_ix ix_list (pv 0) (pv 1) (fun _ _ => rfl)) pe_str (nomark _))
    (pss_cons (ps_asg (pe_call G_part_at (hr.mono (by first | decide | omega)) (by rfl) D_part_at.m D_part_at.F.kp D_part_at.b .nil pass0 (pa_cons (pv 0) (pa_cons (pe_op op_add (pv 1) pe_int) pa_nil))) (pg_tup rfl (pgs_cons (pg_name (i := 2) sc_part_at.nd rfl (Or.inl rfl)) (pgs_cons (pg_name (i := 3) sc_part_at.nd rfl (Or.inl rfl)) pgs_nil))))
    (pss_cons (ps_asg (pe_call G_part_at (hr.mono (by first | decide | omega)) (by rfl) D_part_at.m D_part_at.F.kp D_part_at.b .nil pass0 (pa_cons (pv 0) (pa_cons (pv 3) pa_nil))) (pg_tup rfl (pgs_cons (pg_name (i := 4) sc_part_at.nd rfl (Or.inl rfl)) (pgs_cons (pg_name (i := 3) sc_part_at.nd rfl (Or.inl rfl)) pgs_nil))))
    (pss_one (ps_ret (pe_tup (pa_cons (pe_tup (pa_cons pe_str (pa_cons (pv 2) (pa_cons (pv 4) pa_nil)))) (pa_cons (pv 3) pa_nil)))))))
    (pss_nil))
  (pss_cons (ps_if (PW.pt (pw_or (pt_cmpR op_ge (pe_op op_add (pv 1) pe_int) (pe_callB call_len_seq (by rfl) T.n_len (by decide +kernel) (pa_cons (pv 0) pa_nil)) (nomark _)) (pw_or (pt_cmpR op_ne (pe_callB call_len_str (by rfl) T.n_len (by decide +kernel) (pa_cons (pe_ix ix_list (pv 0) (pe_op op_add (pv 1) pe_int) (fun _ _ => rfl)) pa_nil)) pe_int (nomark _)) (pw_or1 (pt_cmpR op_notIn_sign (pe_ix ix_list (pv 0) (pe_op op_add (pv 1) pe_int) (fun _ _ => rfl)) (pe_gstr (by rfl) hF) (by with_unfolding_all rfl))))))
    (pss_one (ps_never))
    (pss_nil))
  (pss_one (ps_ret (pe_tup (pa_cons (pe_tup (pa_cons (pe_ix ix_list (pv 0) (pv 1) (fun _ _ => rfl)) (pa_cons (pe_callTy call_int_str (by rfl) T.n_int (by decide +kernel) (pa_cons (pe_ix ix_list (pv 0) (pe_op op_add (pv 1) pe_int) (fun _ _ => rfl)) pa_nil)) pa_nil))) (pa_cons (pe_op op_add (pv 1) pe_int) pa_nil))))))))), ?_⟩
    cases g with
    | leaf z ns =>
      obtain ⟨e0, k0, d1⟩ := drop_hd (show ws.drop k = z :: (ns.map strN ++ post) from hd)
      have hz : z ≠ ("both" : Str) := (isG_good d _ hg hd3).2
      have a0 : atI (ws.map V.str) (k : Int) = some (.str z) := at_str e0
      have hlen : (((ws.map V.str).length : Nat) : Int) = (ws.length : Int) := by rw [List.length_map]
      and_intros
      refine iteB0 (decide_eq_false (by rw [hlen]; omega)) ?_
      and_intros
      refine ⟨_, _, _, _, rfl, rfl, hl, a0, ?_⟩
      and_intros
      rcases good_leaf hg with ⟨rfl, rfl⟩ | ⟨m, rfl, hm, hw⟩
      · and_intros
        refine ⟨_, _, _, _, rfl, rfl, hl, a0, ?_⟩
        and_intros
        intro p1 n1
        and_intros
        intro p2 n2
        exact q p2 (.ref p1) _ (by ac_rfl) ⟨p1, rfl, (by infer_instance)⟩ upd_same
      · have hs : (sortsL.lookup z).isSome = true ∧ z ≠ ("none" : Str) := by rcases hw with rfl | rfl | rfl <;> decide
        refine iteB0 (by rw [hs.1]; rfl) ?_
        and_intros
        refine ⟨_, _, _, _, rfl, rfl, hl, a0, ?_⟩
        and_intros
        refine iteB0 (decide_eq_false fun x => hs.2 (V.str.inj x)) ?_
        and_intros
        refine ⟨_, _, _, _, rfl, rfl, hl, a0, ?_⟩
        and_intros
        refine iteB0 (decide_eq_false fun x => hz (V.str.inj x)) ?_
        obtain ⟨e1, k1, d2⟩ := drop_hd (show ws.drop (k + 1) = strN m :: post from d1)
        have a1 : atI (ws.map V.str) ((k : Int) + 1) = some (.str (strN m)) := at_str e1
        and_intros
        refine iteB0 (decide_eq_false (by rw [hlen]; omega)) ?_
        and_intros
        refine ⟨_, _, _, _, rfl, rfl, hl, a1, ?_⟩
        and_intros
        obtain ⟨f1, ⟨c, f2, f3⟩, f4⟩ := num_facts hm
        refine ⟨by rw [f1]; exact sz (by decide), ?_⟩
        and_intros
        refine iteB0 (by rw [f1]; decide) ?_
        and_intros
        refine ⟨_, _, _, _, rfl, rfl, hl, a1, ?_⟩
        and_intros
        refine ⟨c, _, congrArg V.str f2, rfl, ?_⟩
        and_intros
        refine iteB0 (by rw [decide_eq_true f3]; rfl) ?_
        and_intros
        refine ⟨_, _, _, _, rfl, rfl, hl, a0, ?_⟩
        and_intros
        refine ⟨_, _, _, _, rfl, rfl, hl, a1, ?_⟩
        and_intros
        refine ⟨_, m, rfl, f4, by rw [f1]; decide, ?_⟩
        and_intros
        intro p1 n1
        and_intros
        intro p2 n2
        exact q p2 (.ref p1) _ (by ac_rfl) ⟨p1, rfl, (by infer_instance)⟩ upd_same
    | both a b =>
      cases d with
      | zero => simp [good] at hg
      | succ d =>
      have h' : (good d a && good d b) = true := hg
      rw [Bool.and_eq_true] at h'
      obtain ⟨e0, k0, d1⟩ := drop_hd (show ws.drop k = ("both" : Str) :: ((wordsG a ++ wordsG b) ++ post) from hd)
      have a0 : atI (ws.map V.str) (k : Int) = some (.str "both") := at_str e0
      have hlen : (((ws.map V.str).length : Nat) : Int) = (ws.length : Int) := by rw [List.length_map]
      rw [List.append_assoc] at d1
      have d2 : ws.drop (k + 1 + (wordsG a).length) = wordsG b ++ post := by
        rw [← List.drop_drop, d1, List.drop_left]
      and_intros
      refine iteB0 (decide_eq_false (by rw [hlen]; omega)) ?_
      and_intros
      refine ⟨_, _, _, _, rfl, rfl, hl, a0, ?_⟩
      and_intros
      refine ⟨_, _, _, _, rfl, rfl, hl, a0, ?_⟩
      and_intros
      refine ⟨_, _, _, _, rfl, rfl, hl, a0, ?_⟩
      and_intros
      refine ⟨l, k + 1, ws, a, d, _, rfl, hl, d1, h'.1, by omega, by omega, fun p1 v1 H1 s1 g1 e1 => ?_⟩
      refine ⟨p1, _, rfl, sqt e1, rfl, _, _, rfl, _, _, rfl, rfl, ?_⟩
      and_intros
      refine ⟨l, k + 1 + (wordsG a).length, ws, b, d, _, rfl, same_l s1 hl, d2, h'.2, by omega, by omega, fun p2 v2 H2 s2 g2 e2 => ?_⟩
      refine ⟨p2, _, rfl, sqt e2, rfl, _, _, rfl, _, _, rfl, rfl, ?_⟩
      and_intros
      intro p3 n3
      and_intros
      intro p4 n4
      have ek : k + 1 + (wordsG a).length + (wordsG b).length = k + (wordsG (.both a b)).length := by
        show _ = k + (("both" : Str) :: (wordsG a ++ wordsG b)).length
        rw [List.length_cons, List.length_append]
        omega
      rw [← ek] at q
      exact q p4 (.ref p3) _ (by ac_rfl) ⟨p3, v1, v2, rfl, (by infer_instance), (g1.same s2).same (by ac_rfl), g2.same (by ac_rfl)⟩ upd_same
    | _ => simp [good] at hg
/-- what was written is read -/
def spRead (K : PySem.W.Frag) : Sp := fun vs H Q _ => ∃ (g : G), vs = [.str (textG g)] ∧ good 3 g = true ∧ ∀ v H', Same H H' → IsG K H' g v → Q v H'
theorem text_ne {g : G} (h : good 3 g = true) : textG g ≠ ("" : Str) := by
  intro e
  have r := read_back h
  rw [e] at r
  have z : Txt.split ("" : Str) " " = [("" : Str)] := by decide +kernel
  rw [z] at r
  have n := words_no32 3 g h
  cases g with
  | leaf w ns =>
    have e2 : w = ("" : Str) := by
      have : [("" : Str)] = w :: ns.map strN := r
      injection this with e1 _
      exact e1.symm
    rcases good_leaf h with ⟨rfl, _⟩ | ⟨_, _, _, hw⟩
    · exact absurd e2 (by decide)
    · rcases hw with rfl | rfl | rfl <;> exact absurd e2 (by decide)
  | both a b =>
    have : [("" : Str)] = ("both" : Str) :: (wordsG a ++ wordsG b) := r
    injection this with e1 _
    exact absurd e1 (by decide)
  | nil => simp [good] at h
  | b1 _ => simp [good] at h
  | b3 _ _ _ => simp [good] at h
theorem ok_read (T : Nms mg) (B : Tab K w mg dS dM) (hF : ∃ t, mg "FIGURES" = some (.str "0123456789" t)) (D_is_guesser : Df K mg "is_guesser" s_is_guesser p_is_guesser fI fdI) (D_need_guesser : Df K mg "need_guesser" s_need_guesser p_need_guesser fN fdN)
    (D_part_at : Df K mg "part_at" s_part_at p_part_at f fd) {f2 : Addr} {fd2 : FuncData} (F : Fun K "read" "read" s_read f2 fd2) : FnOk P w K mg base CX0 7 f2 fd2 p_read (spRead K) := by
  have G_part_at : FnOk P w K mg base CX0 4 f fd p_part_at (spPart K 4) := ok_part_at T B hF D_part_at 4
  have G_need_guesser : FnOk P w K mg base CX0 6 fN fdN p_need_guesser (spNeedG K) := ok_need_guesser T B D_is_guesser D_need_guesser
  refine F.ok sc_read (fun vs H Q E h => ?_) (fun cdv A outer s H vs Q E hr h => ?_)
  · obtain ⟨r, rfl, _⟩ := h
    rfl
  obtain ⟨g, rfl, hg, q⟩ := h
  refine ⟨_, (pss_cons (ps_set (i := 1) sc_read.nd rfl (Or.inl rfl) (pe_ifExp (pt_cmpR op_ne (pv 0) pe_str (nomark _)) (pe_split (pv 0) pe_str) (pe_lst pa_nil)))
  (pss_cons (ps_asg (pe_call G_part_at (hr.mono (by first | decide | omega)) (by rfl) D_part_at.m D_part_at.F.kp D_part_at.b .nil pass0 (pa_cons (pv 1) (pa_cons pe_int pa_nil))) (pg_tup rfl (pgs_cons (pg_name (i := 2) sc_read.nd rfl (Or.inl rfl)) (pgs_cons (pg_name (i := 3) sc_read.nd rfl (Or.inl rfl)) pgs_nil))))
  (pss_cons (ps_if (pt_cmpR op_lt (pv 3) (pe_callB call_len_seq (by rfl) T.n_len (by decide +kernel) (pa_cons (pv 1) pa_nil)) (nomark _))
    (pss_one (ps_never))
    (pss_nil))
  (pss_cons (ps_expr (pe_call G_need_guesser (hr.mono (by first | decide | omega)) (by rfl) D_need_guesser.m D_need_guesser.F.kp D_need_guesser.b .nil pass0 (pa_cons (pv 2) pa_nil)))
  (pss_one (ps_ret (pv 2))))))), ?_⟩
  and_intros
  refine iteB (by rw [decide_eq_false fun x => text_ne hg (V.str.inj x)]; rfl) ?_
  refine ⟨_, rfl, ⟨_, rfl⟩, _, _, rfl, rfl, rfl, ?_, ?_⟩
  · have z := text_len hg
    exact sz (by omega)
  intro l nl
  rw [read_back hg]
  have hl : SqL K (upd H l (.lst ((wordsG g).map V.str))) l ((wordsG g).map V.str) := sql upd_same
  and_intros
  refine ⟨l, 0, wordsG g, g, 3, [], rfl, hl, (by rw [List.append_nil]; rfl), hg, by omega, by omega, fun p v H1 s1 g1 e1 => ?_⟩
  refine ⟨p, _, rfl, sqt e1, rfl, _, _, rfl, _, _, rfl, rfl, ?_⟩
  and_intros
  refine iteB0 (decide_eq_false (by rw [List.length_map]; omega)) ?_
  and_intros
  refine ⟨v, g, rfl, g1, hg, fun H2 s2 => ?_⟩
  and_intros
  exact q v H2 (by ac_rfl) (g1.same s2)
end
end St

namespace St
open PySem PySem.Spec PyProof.Rows L2 TL
/-! ### texts that tell a guesser, or not: in plain Lean -/
/-- a word of one figure -/
def figW (w : Str) : Option Int := match w.cps.toList with
  | [c] => if c ∈ ("0123456789" : Str).cps.toList then intText? w else none
  | _ => none
theorem str_of {w : Str} {c : Nat} (h : w.cps.toList = [c]) : w = ⟨#[c]⟩ := by
  obtain ⟨⟨l⟩⟩ := w
  have h : l = [c] := h
  rw [h]
theorem fig_one {c : Nat} (h : c ∈ ("0123456789" : Str).cps.toList) : ∃ m, figW ⟨#[c]⟩ = some m ∧ intText? (⟨#[c]⟩ : Str) = some m := by
  have e : ("0123456789" : Str).cps.toList = [48, 49, 50, 51, 52, 53, 54, 55, 56, 57] := by decide
  have hi : ∃ m, intText? (⟨#[c]⟩ : Str) = some m := by
    rw [e] at h
    simp only [List.mem_cons, List.not_mem_nil, or_false] at h
    rcases h with rfl | rfl | rfl | rfl | rfl | rfl | rfl | rfl | rfl | rfl
    · exact ⟨0, int_num (n := 0) (by decide)⟩
    · exact ⟨1, int_num (n := 1) (by decide)⟩
    · exact ⟨2, int_num (n := 2) (by decide)⟩
    · exact ⟨3, int_num (n := 3) (by decide)⟩
    · exact ⟨4, int_num (n := 4) (by decide)⟩
    · exact ⟨5, int_num (n := 5) (by decide)⟩
    · exact ⟨6, int_num (n := 6) (by decide)⟩
    · exact ⟨7, int_num (n := 7) (by decide)⟩
    · exact ⟨8, int_num (n := 8) (by decide)⟩
    · exact ⟨9, int_num (n := 9) (by decide)⟩
  obtain ⟨m, hm⟩ := hi
  exact ⟨m, by show (if c ∈ ("0123456789" : Str).cps.toList then intText? (⟨#[c]⟩ : Str) else none) = _; rw [if_pos h, hm], hm⟩
theorem fig_cases (w : Str) : (figW w = none ∧ (w.length ≠ 1 ∨ ∃ c, w = ⟨#[c]⟩ ∧ c ∉ ("0123456789" : Str).cps.toList)) ∨ ∃ c m, w = ⟨#[c]⟩ ∧ c ∈ ("0123456789" : Str).cps.toList ∧ figW w = some m ∧ intText? w = some m := by
  have hl : w.length = w.cps.toList.length := by simp [Str.length]
  cases q : w.cps.toList with
  | nil => exact .inl ⟨by unfold figW; rw [q], .inl (by rw [hl, q]; decide)⟩
  | cons c r =>
    cases r with
    | cons d r => exact .inl ⟨by unfold figW; rw [q], .inl (by rw [hl, q, List.length_cons, List.length_cons]; omega)⟩
    | nil =>
      have e := str_of q
      subst e
      by_cases hc : c ∈ ("0123456789" : Str).cps.toList
      · obtain ⟨m, h1, h2⟩ := fig_one hc
        exact .inr ⟨c, m, rfl, hc, h1, h2⟩
      · exact .inl ⟨by show (if c ∈ ("0123456789" : Str).cps.toList then intText? (⟨#[c]⟩ : Str) else none) = none; rw [if_neg hc], .inr ⟨c, rfl, hc⟩⟩
inductive Pt where
  | bad (k : Nat)
  | ok (g : G) (k : Nat)
/-- the guesser at a word -/
def partP : Nat → List Str → Nat → Pt
  | 0, _, k => .bad k
  | n + 1, ws, k => match ws[k]? with
    | none => .bad k
    | some w => match sortsL.lookup w with
      | none => .bad k
      | some _ => if w = "none" then .ok (.leaf "none" []) (k + 1) else if w = "both" then (match partP n ws (k + 1) with
          | .bad e => .bad e
          | .ok a j => match partP n ws j with
            | .bad e => .bad e
            | .ok b i => .ok (.both a b) i) else (match ws[k + 1]? with
          | none => .bad (k + 1)
          | some f => match figW f with
            | none => .bad (k + 1)
            | some m => .ok (.leaf w [m]) (k + 2))
theorem partP_k : ∀ {n : Nat} {ws : List Str} {k : Nat} {g : G} {j : Nat}, partP n ws k = .ok g j → k < j ∧ j ≤ ws.length
  | 0, _, _, _, _, h => nomatch h
  | n + 1, ws, k, g, j, h => by
    unfold partP at h
    cases e : ws[k]? with
    | none => rw [e] at h; exact nomatch h
    | some w =>
      have hk := (List.getElem?_eq_some_iff.mp e).1
      rw [e] at h
      dsimp only at h
      cases e2 : sortsL.lookup w with
      | none => rw [e2] at h; exact nomatch h
      | some z =>
        rw [e2] at h
        dsimp only at h
        split at h
        · cases h; omega
        · split at h
          · cases e3 : partP n ws (k + 1) with
            | bad e => rw [e3] at h; exact nomatch h
            | ok a i =>
              rw [e3] at h
              dsimp only at h
              cases e4 : partP n ws i with
              | bad e => rw [e4] at h; exact nomatch h
              | ok b i2 =>
                rw [e4] at h
                cases h
                have h1 := partP_k e3
                have h2 := partP_k e4
                omega
          · cases e3 : ws[k + 1]? with
            | none => rw [e3] at h; exact nomatch h
            | some f =>
              have hk2 := (List.getElem?_eq_some_iff.mp e3).1
              rw [e3] at h
              dsimp only at h
              cases e4 : figW f with
              | none => rw [e4] at h; exact nomatch h
              | some m => rw [e4] at h; cases h; omega
/-- it is well formed: no leaf says both -/
theorem partP_wf : ∀ {n : Nat} {ws : List Str} {k : Nat} {g : G} {j : Nat}, partP n ws k = .ok g j → WfG g
  | 0, _, _, _, _, h => nomatch h
  | n + 1, ws, k, g, j, h => by
    unfold partP at h
    cases e : ws[k]? with
    | none => rw [e] at h; exact nomatch h
    | some w =>
      rw [e] at h
      dsimp only at h
      cases e2 : sortsL.lookup w with
      | none => rw [e2] at h; exact nomatch h
      | some z =>
        rw [e2] at h
        dsimp only at h
        split at h
        · cases h; show ("none" : Str) ≠ "both"; decide
        · rename_i hn
          split at h
          · cases e3 : partP n ws (k + 1) with
            | bad e => rw [e3] at h; exact nomatch h
            | ok a i =>
              rw [e3] at h
              dsimp only at h
              cases e4 : partP n ws i with
              | bad e => rw [e4] at h; exact nomatch h
              | ok b i2 =>
                rw [e4] at h
                cases h
                exact ⟨partP_wf e3, partP_wf e4⟩
          · rename_i hb
            cases e3 : ws[k + 1]? with
            | none => rw [e3] at h; exact nomatch h
            | some f =>
              rw [e3] at h
              dsimp only at h
              cases e4 : figW f with
              | none => rw [e4] at h; exact nomatch h
              | some m => rw [e4] at h; cases h; exact hb
/-! ### the law's way: what is wanted next -/
inductive Wt where
  | gue
  | num
def more (w : Str) : Option (List Wt) := if w = "none" then some [] else if w = "next" ∨ w = "stride" ∨ w = "pairs" then some [.num] else if w = "both" then some [.gue, .gue] else none
/-- the first place that can't stand there; what is wanted: the next ahead -/
def scan : List Str → Nat → List Wt → Option Nat
  | [], k, W => if W.isEmpty then none else some k
  | _ :: _, k, [] => some k
  | w :: r, k, .num :: W => if (figW w).isSome then scan r (k + 1) W else some k
  | w :: r, k, .gue :: W => match more w with
    | none => some k
    | some m => scan r (k + 1) (m ++ W)
theorem more_sorts (w : Str) : (sortsL.lookup w).isSome = (more w).isSome := by
  unfold more sortsL
  by_cases h1 : w = "none"
  · subst h1; decide
  by_cases h2 : w = "next"
  · subst h2; decide
  by_cases h3 : w = "stride"
  · subst h3; decide
  by_cases h4 : w = "pairs"
  · subst h4; decide
  by_cases h5 : w = "both"
  · subst h5; decide
  rw [if_neg h1, if_neg (by rintro (h | h | h) <;> contradiction), if_neg h5]
  simp [List.lookup, beq_eq_false_iff_ne.mpr h1, beq_eq_false_iff_ne.mpr h2, beq_eq_false_iff_ne.mpr h3, beq_eq_false_iff_ne.mpr h4, beq_eq_false_iff_ne.mpr h5]
theorem drop_at {ws : List Str} {k : Nat} {w : Str} (h : ws[k]? = some w) : ws.drop k = w :: ws.drop (k + 1) := by
  obtain ⟨hk, e⟩ := List.getElem?_eq_some_iff.mp h
  rw [List.drop_eq_getElem_cons hk, e]
theorem drop_none {ws : List Str} {k : Nat} (h : ws[k]? = none) : ws.drop k = [] := List.drop_eq_nil_of_le (List.getElem?_eq_none_iff.mp h)
theorem scan_part : ∀ (n : Nat) (ws : List Str) (k : Nat) (W : List Wt), ws.length < k + n →
    (∀ e, partP n ws k = .bad e → scan (ws.drop k) k (.gue :: W) = some e) ∧ (∀ g j, partP n ws k = .ok g j → scan (ws.drop k) k (.gue :: W) = scan (ws.drop j) j W)
  | 0, ws, k, W, hn => by
    refine ⟨fun e h => ?_, fun g j h => nomatch h⟩
    cases h
    rw [List.drop_eq_nil_of_le (by omega)]
    rfl
  | n + 1, ws, k, W, hn => by
    have ih1 := fun W => scan_part n ws (k + 1) W (by omega)
    cases e : ws[k]? with
    | none =>
      have ep : partP (n + 1) ws k = .bad k := by unfold partP; rw [e]
      rw [ep, drop_none e]
      exact ⟨fun e h => by cases h; rfl, fun g j h => nomatch h⟩
    | some w =>
      rw [drop_at e]
      have hm := more_sorts w
      cases e2 : sortsL.lookup w with
      | none =>
        have ep : partP (n + 1) ws k = .bad k := by unfold partP; rw [e]; dsimp only; rw [e2]
        rw [e2] at hm
        have e3 : more w = none := by cases q : more w with
          | none => rfl
          | some m => rw [q] at hm; cases hm
        have es : scan (w :: ws.drop (k + 1)) k (.gue :: W) = some k := by unfold scan; rw [e3]
        rw [ep, es]
        exact ⟨fun e h => by cases h; rfl, fun g j h => nomatch h⟩
      | some z =>
        by_cases c1 : w = "none"
        · have ep : partP (n + 1) ws k = .ok (.leaf "none" []) (k + 1) := by unfold partP; rw [e]; dsimp only; rw [e2]; dsimp only; rw [if_pos c1]
          have es : scan (w :: ws.drop (k + 1)) k (.gue :: W) = scan (ws.drop (k + 1)) (k + 1) W := by
            show (match more w with | none => some k | some m => scan (ws.drop (k + 1)) (k + 1) (m ++ W)) = _
            have : more w = some [] := by unfold more; rw [if_pos c1]
            rw [this]; rfl
          rw [ep, es]
          exact ⟨fun e h => (nomatch h), fun g j h => by cases h; rfl⟩
        · by_cases c2 : w = "both"
          · have em : more w = some [.gue, .gue] := by subst c2; rfl
            have es : scan (w :: ws.drop (k + 1)) k (.gue :: W) = scan (ws.drop (k + 1)) (k + 1) (.gue :: .gue :: W) := by
              show (match more w with | none => some k | some m => scan (ws.drop (k + 1)) (k + 1) (m ++ W)) = _
              rw [em]; rfl
            rw [es]
            cases e3 : partP n ws (k + 1) with
            | bad q =>
              have ep : partP (n + 1) ws k = .bad q := by unfold partP; rw [e]; dsimp only; rw [e2]; dsimp only; rw [if_neg c1, if_pos c2, e3]
              rw [ep]
              exact ⟨fun e h => by cases h; exact (ih1 _).1 _ e3, fun g j h => nomatch h⟩
            | ok a j =>
              have hj := partP_k e3
              have ih2 := scan_part n ws j W (by omega)
              rw [(ih1 (.gue :: W)).2 _ _ e3]
              cases e4 : partP n ws j with
              | bad q =>
                have ep : partP (n + 1) ws k = .bad q := by unfold partP; rw [e]; dsimp only; rw [e2]; dsimp only; rw [if_neg c1, if_pos c2, e3]; dsimp only; rw [e4]
                rw [ep]
                exact ⟨fun e h => by cases h; exact ih2.1 _ e4, fun g j h => nomatch h⟩
              | ok b i =>
                have ep : partP (n + 1) ws k = .ok (.both a b) i := by unfold partP; rw [e]; dsimp only; rw [e2]; dsimp only; rw [if_neg c1, if_pos c2, e3]; dsimp only; rw [e4]
                rw [ep]
                exact ⟨fun e h => (nomatch h), fun g j h => by cases h; exact ih2.2 _ _ e4⟩
          · have em : more w = some [.num] := by
              rcases sorts_cases e2 with h | h | h | h | h
              · exact absurd h.1 c1
              · obtain ⟨rfl, _⟩ := h; rfl
              · obtain ⟨rfl, _⟩ := h; rfl
              · obtain ⟨rfl, _⟩ := h; rfl
              · exact absurd h.1 c2
            have es : scan (w :: ws.drop (k + 1)) k (.gue :: W) = scan (ws.drop (k + 1)) (k + 1) (.num :: W) := by
              show (match more w with | none => some k | some m => scan (ws.drop (k + 1)) (k + 1) (m ++ W)) = _
              rw [em]; rfl
            rw [es]
            cases e3 : ws[k + 1]? with
            | none =>
              have ep : partP (n + 1) ws k = .bad (k + 1) := by unfold partP; rw [e]; dsimp only; rw [e2]; dsimp only; rw [if_neg c1, if_neg c2, e3]
              rw [ep, drop_none e3]
              exact ⟨fun e h => by cases h; rfl, fun g j h => nomatch h⟩
            | some f =>
              rw [drop_at e3]
              cases e4 : figW f with
              | none =>
                have ep : partP (n + 1) ws k = .bad (k + 1) := by unfold partP; rw [e]; dsimp only; rw [e2]; dsimp only; rw [if_neg c1, if_neg c2, e3]; dsimp only; rw [e4]
                rw [ep]
                refine ⟨fun e h => ?_, fun g j h => nomatch h⟩
                cases h
                show (if (figW f).isSome = true then _ else _) = _
                rw [e4]; rfl
              | some m =>
                have ep : partP (n + 1) ws k = .ok (.leaf w [m]) (k + 2) := by unfold partP; rw [e]; dsimp only; rw [e2]; dsimp only; rw [if_neg c1, if_neg c2, e3]; dsimp only; rw [e4]
                rw [ep]
                refine ⟨fun e h => (nomatch h), fun g j h => ?_⟩
                cases h
                show (if (figW f).isSome = true then _ else _) = _
                rw [e4]; rfl
/-! ### read -/
inductive Rd where
  | text (k : Nat)
  | gue
  | ok (g : G)
def wordsT (t : Str) : List Str := if t = "" then [] else Txt.split t " "
def readP (t : Str) : Rd := match partP ((wordsT t).length + 1) (wordsT t) 0 with
  | .bad k => .text k
  | .ok g j => if j < (wordsT t).length then .text j else if isG 0 g = true then .ok g else .gue
/-- the law's own -/
theorem read_scan (t : Str) : readP t = match scan (wordsT t) 0 [.gue] with
    | some k => .text k
    | none => match partP ((wordsT t).length + 1) (wordsT t) 0 with
      | .bad k => .text k
      | .ok g _ => if isG 0 g = true then .ok g else .gue := by
  have h := scan_part ((wordsT t).length + 1) (wordsT t) 0 [] (by omega)
  rw [List.drop_zero] at h
  unfold readP
  cases e : partP ((wordsT t).length + 1) (wordsT t) 0 with
  | bad k => rw [h.1 _ e]
  | ok g j =>
    rw [h.2 _ _ e]
    have hj := partP_k e
    by_cases c : j < (wordsT t).length
    · have e2 : (wordsT t).drop j = (wordsT t)[j] :: (wordsT t).drop (j + 1) := List.drop_eq_getElem_cons c
      rw [e2]
      dsimp only
      rw [if_pos c]
      rfl
    · rw [List.drop_eq_nil_of_le (by omega)]
      dsimp only
      rw [if_neg c]
      rfl
/-! ### how many words -/
theorem spl_count : ∀ (l acc : List Nat), (spl [32] 0 acc l).length = l.count 32 + 1
  | [], acc => by rw [spl_nil]; rfl
  | c :: r, acc => by
    by_cases h : c = 32
    · subst h
      rw [spl_hit (show pre [32] (32 :: r) = true from pre_self [32] r), List.length_cons, List.count_cons_self]
      show (spl [32] 0 [] r).length + 1 = _
      rw [spl_count r []]
    · rw [spl_miss (pre_of_head [] r h), spl_count r, List.count_cons_of_ne h]
theorem spl_sub : ∀ (l acc : List Nat), ∀ p ∈ spl [32] 0 acc l, p.length ≤ acc.length + l.length ∧ ((32 : Nat) ∉ acc → (32 : Nat) ∉ p)
  | [], acc => by
    rw [spl_nil]
    intro p hp
    rw [List.mem_singleton.mp hp]
    exact ⟨by simp, id⟩
  | c :: r, acc => by
    intro p hp
    by_cases h : c = 32
    · subst h
      rw [spl_hit (show pre [32] (32 :: r) = true from pre_self [32] r)] at hp
      rcases List.mem_cons.mp hp with e | hp
      · rw [e]; exact ⟨by omega, id⟩
      · have := spl_sub r [] p hp
        rw [List.length_nil] at this
        exact ⟨by rw [List.length_cons]; omega, fun _ => this.2 (by simp)⟩
    · rw [spl_miss (pre_of_head [] r h)] at hp
      have := spl_sub r (acc ++ [c]) p hp
      rw [List.length_append, List.length_singleton] at this
      exact ⟨by rw [List.length_cons]; omega, fun q => this.2 fun z => (List.mem_append.mp z).elim q fun z => h (List.mem_singleton.mp z).symm⟩
theorem split_tl (t : Str) : (Txt.split t " ").map tl = spl [32] 0 [] (tl t) := split_spl t " " (by decide) (kind_ok (by decide +kernel))
theorem split_count (t : Str) : (Txt.split t " ").length = (tl t).count 32 + 1 := by
  have := congrArg List.length (split_tl t)
  rw [List.length_map, spl_count] at this
  exact this
theorem split_len (t : Str) : ∀ x ∈ Txt.split t " ", x.length ≤ t.length := fun x hx => by
  have h : tl x ∈ spl [32] 0 [] (tl t) := by rw [← split_tl]; exact List.mem_map.mpr ⟨x, hx, rfl⟩
  have := (spl_sub _ _ _ h).1
  rw [List.length_nil, ← len_tl, ← len_tl] at this
  omega
theorem split_no (t : Str) : ∀ x ∈ Txt.split t " ", (32 : Nat) ∉ tl x := fun x hx => by
  have h : tl x ∈ spl [32] 0 [] (tl t) := by rw [← split_tl]; exact List.mem_map.mpr ⟨x, hx, rfl⟩
  exact (spl_sub _ _ _ h).2 (by simp)
section
variable {n : Nat} {ws : List Str} {k : Nat} {x : Str} {z : Int}
theorem part_none (e : ws[k]? = none) : partP (n + 1) ws k = .bad k := by unfold partP; rw [e]
theorem part_bad (e : ws[k]? = some x) (e2 : sortsL.lookup x = none) : partP (n + 1) ws k = .bad k := by unfold partP; rw [e]; dsimp only; rw [e2]
theorem part_leaf (e : ws[k]? = some x) (e2 : sortsL.lookup x = some z) (c : x = "none") : partP (n + 1) ws k = .ok (.leaf "none" []) (k + 1) := by unfold partP; rw [e]; dsimp only; rw [e2]; dsimp only; rw [if_pos c]
theorem part_both1 (e : ws[k]? = some x) (e2 : sortsL.lookup x = some z) (c1 : ¬ x = "none") (c2 : x = "both") {q : Nat} (e3 : partP n ws (k + 1) = .bad q) : partP (n + 1) ws k = .bad q := by unfold partP; rw [e]; dsimp only; rw [e2]; dsimp only; rw [if_neg c1, if_pos c2, e3]
theorem part_both2 (e : ws[k]? = some x) (e2 : sortsL.lookup x = some z) (c1 : ¬ x = "none") (c2 : x = "both") {a : G} {j q : Nat} (e3 : partP n ws (k + 1) = .ok a j) (e4 : partP n ws j = .bad q) : partP (n + 1) ws k = .bad q := by unfold partP; rw [e]; dsimp only; rw [e2]; dsimp only; rw [if_neg c1, if_pos c2, e3]; dsimp only; rw [e4]
theorem part_both3 (e : ws[k]? = some x) (e2 : sortsL.lookup x = some z) (c1 : ¬ x = "none") (c2 : x = "both") {a b : G} {j i : Nat} (e3 : partP n ws (k + 1) = .ok a j) (e4 : partP n ws j = .ok b i) : partP (n + 1) ws k = .ok (.both a b) i := by unfold partP; rw [e]; dsimp only; rw [e2]; dsimp only; rw [if_neg c1, if_pos c2, e3]; dsimp only; rw [e4]
theorem part_num1 (e : ws[k]? = some x) (e2 : sortsL.lookup x = some z) (c1 : ¬ x = "none") (c2 : ¬ x = "both") (e3 : ws[k + 1]? = none) : partP (n + 1) ws k = .bad (k + 1) := by unfold partP; rw [e]; dsimp only; rw [e2]; dsimp only; rw [if_neg c1, if_neg c2, e3]
theorem part_num2 (e : ws[k]? = some x) (e2 : sortsL.lookup x = some z) (c1 : ¬ x = "none") (c2 : ¬ x = "both") {y : Str} (e3 : ws[k + 1]? = some y) (e4 : figW y = none) : partP (n + 1) ws k = .bad (k + 1) := by unfold partP; rw [e]; dsimp only; rw [e2]; dsimp only; rw [if_neg c1, if_neg c2, e3]; dsimp only; rw [e4]
theorem part_num3 (e : ws[k]? = some x) (e2 : sortsL.lookup x = some z) (c1 : ¬ x = "none") (c2 : ¬ x = "both") {y : Str} {m : Int} (e3 : ws[k + 1]? = some y) (e4 : figW y = some m) : partP (n + 1) ws k = .ok (.leaf x [m]) (k + 2) := by unfold partP; rw [e]; dsimp only; rw [e2]; dsimp only; rw [if_neg c1, if_neg c2, e3]; dsimp only; rw [e4]
end
end St

namespace St
open PySem PySem.Spec PyProof.Rows L2
/-! ### the program's own errors -/
/-- a class of error, under CW -/
structure ErrX (K : PySem.W.Frag) (mg : Str → Option Value) (x : Str) (C CW : Addr) : Prop where
  g : mg x = some (.ref C)
  kp : PySem.W.keepIn K (.ref C) = true
  ex : PySem.W.subIn K (.ref C) (.type "BaseException") = some true
  ve : PySem.W.subIn K (.ref C) (.type "ValueError") = some true
  we : PySem.W.subIn K (.ref C) (.ref CW) = some true
  ty : PySem.W.typeIn K (.ref C) = some (.type "type")
  hd : PySem.W.hasDictIn K C = true
  ga : PySem.W.findIn K (.ref C) "__getattribute__" = some (some (.builtin "BaseException.__getattribute__"))
  gg : PySem.W.findIn K (.ref C) "__getattr__" = some none
  ha : PySem.W.findIn K (.ref C) "__class__" = some (some (.builtin "object.__class__"))
  hm : PySem.W.mroIn K C (.type "object") = some true
/-- .. without an __init__ of its own -/
def ErrP (K : PySem.W.Frag) (C : Addr) : Prop := PySem.W.excIn K C [.type "ValueError", .type "Exception", .type "BaseException", .type "object"] "ValueError.__new__" = true
/-- .. with one -/
structure ErrI (K : PySem.W.Frag) (f : Str) (C fI : Addr) : Prop where
  cls : ∃ nm q N bs bm sn sub ab col dd k0 k1 k2 k3 k5, K.lookup C = some (excClassObj nm q C N bs bm true sn sub ab col dd k0 k1 k2 k3 k5 "ValueError.__new__") ∧ PySem.HandSPX.refsVE bm = true
  sa : PySem.W.findIn K (.ref C) "__setattr__" = some (some (.builtin "object.__setattr__"))
  iC : PySem.W.findIn K (.ref C) "__init__" = some (some (.ref fI))
  tI : PySem.W.typeIn K (.ref fI) = some (.type "function")
  no : PySem.W.findIn K (.ref C) f = some none
/-- the errors' own base -/
structure WellC (K : PySem.W.Frag) (mg : Str → Option Value) (CW : Addr) : Prop where
  g : mg "WellError" = some (.ref CW)
  ex : PySem.W.subIn K (.ref CW) (.type "BaseException") = some true
  hd : PySem.W.hasDictIn K CW = true
  ty : PySem.W.typeIn K (.ref CW) = some (.type "type")
  rd : PySem.W.readsIn K CW (.type "type") = true
  sg : PySem.W.specialIn K (.ref CW) "__getattribute__" = some (some (.builtin "type.__getattribute__"))
  nve : mg "ValueError" = none
  fc : PySem.W.findCls K (.ref CW) (.type "type") "__init__" = some (.val (.builtin "ValueError.__init__"))
  hn : PySem.W.specialIn K (.builtin "object.__class__") "__get__" = some (some (.builtin "getset_descriptor.__get__"))
  ht : PySem.W.takesIn K (.builtin "object.__class__") = some true
/-- two classes: whether the one's errors are the other's -/
structure Two (K : PySem.W.Frag) (D C : Addr) (b : Bool) : Prop where
  sub : PySem.W.subIn K (.ref D) (.ref C) = some b
  ne : b = false → D ≠ C
/-- an error's __init__, and how its arguments bind -/
structure Ef (K : PySem.W.Frag) (q : Str) (st : Stmt) (ps : List Str) (f : Addr) (fd : FuncData) : Prop where
  F : Fun K "__init__" q st f fd
  b : Binds K fd ps []
section
variable {K : PySem.W.Frag} {mg : Str → Option Value} {x y : Str} {C D CW fI : Addr}
theorem hd_cls (h : PySem.W.hasDictIn K C = true) : (PySem.W.clsIn K C).isSome = true := by
  obtain ⟨cd, hc, _⟩ := PySem.W.any_some h
  rw [hc]; rfl
theorem kit_ref {b : Bool} (h : ErrX K mg y C CW) (t : Two K D C b) : PySem.W.kitOne K (.ref D) (.ref C) = some b := by
  unfold PySem.W.kitOne
  by_cases e : D = C
  · subst e
    rw [if_pos (beq_self_eq_true _)]
    cases b with
    | true => rfl
    | false => exact absurd rfl (t.ne rfl)
  · have e' : ((Value.ref D == Value.ref C) = true) = False := by simp [e]
    rw [if_neg (by rw [e']; exact id)]
    show (if ((PySem.W.clsIn K C).isSome && PySem.W.typeIn K (.ref C) == some (.type "type")) = true then PySem.W.subIn K (.ref D) (.ref C) else none) = _
    rw [hd_cls h.hd, h.ty, if_pos (by simp)]
    exact t.sub
theorem kit_any3 {t a b c : Value} (ha : PySem.W.kitOne K t a = some false) (hb : PySem.W.kitOne K t b = some false) (hc : PySem.W.kitOne K t c = some false) : PySem.W.kitAny K t [a, b, c] = some false := by
  simp only [PySem.W.kitAny, ha, hb, hc]
theorem kit_ve (h : ErrX K mg x D CW) : PySem.W.kitOne K (.ref D) (.type "ValueError") = some true := by
  unfold PySem.W.kitOne
  rw [if_neg (fun e => by simp at e)]
  show (if PySem.W.kitMeta "ValueError" = true then PySem.W.subIn K (.ref D) (.type "ValueError") else none) = _
  rw [if_pos (by decide +kernel)]
  exact h.ve
theorem exm_well (W : WellC K mg CW) (h : ErrX K mg x D CW) : PySem.W.exmOne K (.ref D) (.ref CW) = some true := PySem.W.exm_ref W.ex W.hd W.ty h.we
theorem ErrX.oex {f : Str} (h : ErrX K mg x C CW) (i : ErrI K f C fI) : OexC K C := ⟨i.cls, i.sa, h.ex, h.ty, h.kp⟩
theorem ErrX.xf (h : ErrX K mg x C CW) : XfC K C := ⟨h.ga, h.gg, h.ex, h.hd⟩
end
/-! ### how errors leave a def -/
def errF (C : Addr) (f : Str) (v : V) (H : Hp) (E : XK) : Prop := ∀ d H', Same H H' → H d = none → H' d = some (.xd [(f, v)]) → E (.ref C) (some d) H'
def errP (C : Addr) (H : Hp) (E : XK) : Prop := ∀ H', Same H H' → E (.ref C) none H'
theorem errF.after {C : Addr} {f : Str} {v : V} {H H' : Hp} {E : XK} (h : errF C f v H E) (s : Same H H') : errF C f v H' E := fun d H2 s2 n e => h d H2 (s.trans s2) (by
  cases q : H d with
  | none => rfl
  | some o => rw [s _ _ q] at n; cases n) e
theorem errP.after {C : Addr} {H H' : Hp} {E : XK} (h : errP C H E) (s : Same H H') : errP C H' E := fun H2 s2 => h H2 (s.trans s2)
section
variable {X : Cx} {e o : Expr} {es : List Expr} {ta : TA} {te : TE} {p1 p2 pos : Pos}
/-- WellError.__init__(self, ..) -/
theorem pe_weinit {CW : Addr} {pl : Sem Bool} (W : WellC X.K X.mg CW) (hg : Gl X "WellError") (ha : PA X (e :: es) ta)
    (hc : eval (.Call (.Attribute (.Name "WellError" p1) "__init__" p2) (e :: es) [] pos) X.env = (do
      let ov ← eval (.Name "WellError" p1) X.env
      standAt p2.atName
      let (f, first) ← holding [ov] (getMethod ov "__init__" pl)
      callWith pos f first (backTo pos (starEach (e :: es) X.env)) (backToKw pos (keywordEach [] X.env))) := by rfl)
    (he : starEach (e :: es) X.env = (false, eval e X.env) :: starEach es X.env := by rfl) (hpl : (backTo pos (starEach es X.env)).any (·.1) = false := by rfl) :
    PE X (.Call (.Attribute (.Name "WellError" p1) "__init__" p2) (e :: es) [] pos) (tVeI X.K ta) := by
  refine ⟨fun pins s σ H Q I h => ?_⟩
  refine PySem.W.methodCall_KW (ld_glob I hg W.g ?_ (by decide)) hc
  refine PySem.W.method_cls I.kIn W.sg (PySem.W.cls_value I.kIn W.rd W.fc (by decide +kernel) ?_)
  show wpAny _ _ (callWith pos (Value.builtin "ValueError.__init__") [] (backTo pos (starEach (e :: es) X.env)) []) _ _ _
  refine PyProof.Rows.callWith_method1 (thn (ha.run pos pins _ σ H _ (I.tok _) h) fun us s1 ⟨vs, H1, I1, r1, a, C, ws, ev, hl, T, ea, q⟩ => ?_) he hpl
  subst ev
  cases r1 with
  | @cons _ u0 _ ur ra rw' =>
    obtain rfl : u0 = Value.ref a := ra
    have hlen : ur.length ≤ sizeLine := by
      rw [← Paired.length rw', sizeLine_eq]
      omega
    exact oinit_ok T I1 ea hlen fun s' J => ⟨.non, H1, J, rfl, q⟩
/-- what an __init__ of an error promises: the field f holds what it is handed -/
def spInit (C : Addr) (f : Str) : Sp := fun vs H Q _ => ∃ (a : Addr) (v : V), vs = [.ref a, v] ∧ H a = some (exo a C none) ∧ ∀ d, H d = none → d ≠ a → Q .non (upd (upd H d (exd d [(f, v)])) a (exo a C (some d)))
/-- raise X(v), the field f -/
theorem init_err {C : Addr} {f : Str} {v : V} {H : Hp} {E : XK} (h : errF C f v H E) : [v].length ≤ 1000 ∧ ∀ a, H a = none → spInit C f (.ref a :: ([v] ++ [])) (upd H a (exo a C none))
    (fun v' H2 => v' = .non ∧ ∃ (d : Addr) (fs : List (Str × V)), H2 a = some (exo a C (some d)) ∧ H2 d = some (exd d fs) ∧ H d = none ∧ E (.ref C) (some d) (upd (del H2 a) d (.xd fs))) (fun _ _ _ => False) := by
  refine ⟨by show 1 ≤ 1000; decide, fun a na => ⟨a, v, rfl, upd_same, fun d nd nda => ⟨rfl, d, [(f, v)], upd_same, by rw [upd_ne nda]; exact upd_same, ?_, ?_⟩⟩⟩
  · rw [upd_ne nda] at nd; exact nd
  · rw [upd_ne nda] at nd
    refine h d _ (fun b o q => ?_) nd upd_same
    have n1 : b ≠ d := ne_of_none q nd
    have n2 : b ≠ a := ne_of_none q na
    rw [upd_ne n1, del_ne n2, upd_ne n2, upd_ne n1, upd_ne n2]
    exact q
/-! ### isinstance of a caught error -/
/-- isinstance(e, c), e the error that the suite holds, of the class cls, its dict at d -/
def rIsX (K : PySem.W.Frag) (mg : Str → Option Value) (CW a : Addr) (cls : Value) (d : Option Addr) : List V → Hp → VK → Prop := fun xs H Q => ∃ (x : Str) (D : Addr) (c : V) (cv : Value) (b : Bool), cls = .ref D ∧ ErrX K mg x D CW ∧ xs = [.ref a, c] ∧ ClsV c cv ∧ (d = none ∨ ∃ dd fs, d = some dd ∧ H dd = some (.xd fs)) ∧ PySem.W.kitOne K (.ref D) cv = some b ∧ Q (.bl b) H
def rIsXT (K : PySem.W.Frag) (mg : Str → Option Value) (CW a : Addr) (cls : Value) (d : Option Addr) : List V → Hp → VK → Prop := fun xs H Q => ∃ (x : Str) (D tp : Addr) (cs : List V) (us : List Value) (b : Bool), cls = .ref D ∧ ErrX K mg x D CW ∧ xs = [.ref a, .ref tp] ∧ H tp = some (.tup cs) ∧ Paired ClsV cs us ∧ (d = none ∨ ∃ dd fs, d = some dd ∧ H dd = some (.xd fs)) ∧ PySem.W.kitAny K (.ref D) us = some b ∧ Q (.bl b) H
end
section
variable {mg : Str → Option Value} {x : Str} {CW D a : Addr} {oe : Obj} {pn : List (Addr × Obj)} {d : Option Addr} {X : Cx}
theorem inst_of {pins : List (Addr × Obj)} {σ : L2.St} {H : Hp} {s : Shared} (I : Inv (X.suite a ((a, oe) :: pn)) pins σ H s) (hz : Zc (.ref D) d oe) (hf : ∃ vs, oe.data = .fields vs) (hd : d = none ∨ ∃ dd fs, d = some dd ∧ H dd = some (.xd fs)) : ∃ od, PySem.W.InstAt s.heap a oe D od := by
  obtain ⟨hget, _⟩ := I.pin (a, oe) (List.mem_append.mpr (.inl List.mem_cons_self))
  obtain ⟨vs, hv⟩ := hf
  obtain ⟨oc, oo, oda, osl⟩ := oe
  obtain ⟨h1, h2⟩ := hz
  dsimp only at h1 h2 hv
  subst h1 h2 hv
  rcases hd with rfl | ⟨dd, fs, rfl, ea⟩
  · exact ⟨none, hget, rfl, rfl, trivial⟩
  · have hx : ObjOk X.prog X.w H s.heap dd (.xd fs) := I.hok dd _ ea
    obtain ⟨mA, hns, hr⟩ := hx
    obtain ⟨od, ho, hl⟩ := lookIn_ns hns
    exact ⟨some od, hget, rfl, rfl, ho⟩
theorem call_isX {K : PySem.W.Frag} {cls : Value} (W : WellC K mg CW) (hz : Zc cls d oe) (hf : ∃ vs, oe.data = .fields vs) (hK : X.K = K := by rfl) : CallR (X.suite a ((a, oe) :: pn)) (.builtin "isinstance") (rIsX K mg CW a cls d) := by
  subst hK
  intro pins s σ H xs us Q I r h
  obtain ⟨x, D, c, cv, b, rfl, T, rfl, hcv, hd, e, q⟩ := h
  obtain ⟨u1, u2, rfl, r1, r2⟩ := vals2 r
  cases (show u1 = Value.ref a from r1)
  have e2 := hcv.eq r2
  subst e2
  obtain ⟨od, J⟩ := inst_of I hz hf hd
  exact PySem.W.kia_one (PySem.W.kitx_exc (hd_cls T.hd) T.ga T.gg T.ex T.ha W.hn W.ht T.hm) I.kIn J e (fun z => nomatch z) fun tk => ⟨.bl b, H, I.kept (t' := tk) fun _ _ z => z, rfl, q⟩
theorem call_isXT {K : PySem.W.Frag} {cls : Value} (W : WellC K mg CW) (hz : Zc cls d oe) (hf : ∃ vs, oe.data = .fields vs) (hK : X.K = K := by rfl) : CallR (X.suite a ((a, oe) :: pn)) (.builtin "isinstance") (rIsXT K mg CW a cls d) := by
  subst hK
  intro pins s σ H xs us Q I r h
  obtain ⟨x, D, tp, cs, ws, b, rfl, T, rfl, hT, k, hd, e, q⟩ := h
  obtain ⟨u1, u2, rfl, r1, r2⟩ := vals2 r
  cases (show u1 = Value.ref a from r1)
  cases (show u2 = Value.ref tp from r2)
  obtain ⟨od, J⟩ := inst_of I hz hf hd
  obtain ⟨_, its, rv, o, h1, h2, n, h3⟩ := (show ObjOk X.prog X.w H s.heap tp (.tup cs) from I.hok tp _ hT)
  have e3 := ClsV.all k rv
  subst e3
  obtain ⟨oc, odd, dt, sl⟩ := o
  simp only at h2 h3
  subst h2 h3
  exact PySem.W.kia_tup (PySem.W.kitx_exc (hd_cls T.hd) T.ga T.gg T.ex T.ha W.hn W.ht T.hm) I.kIn J h1 e (fun z => nomatch z) fun tk => ⟨.bl b, H, I.kept (t' := tk) fun _ _ z => z, rfl, q⟩
end
/-! ### list.count of True -/
def eqkb (k : Bool) (v : Value) : Bool := match v with
  | .bool n => n == k
  | _ => false
theorem eqkb_gives {k : Bool} : ∀ {us : List Value} {ns : List Bool}, Vals (ns.map V.bl) us → ∀ y ∈ us, MeetsSeq.EqGives y (.bool k) (eqkb k y)
  | [], [], .nil => fun y hy => by cases hy
  | _ :: _, n :: _, .cons e h => fun y hy => by
    rcases List.mem_cons.mp hy with e2 | e2
    · cases (show _ = Value.bool n from e)
      rw [e2]
      exact fun prog w A E s Q h => SeqAt.EqAt.bool_bool n k prog w E Q h
    · exact eqkb_gives h y e2
theorem eqkb_count {k : Bool} : ∀ {us : List Value} {ns : List Bool}, Vals (ns.map V.bl) us → us.countP (eqkb k) = ns.count k
  | [], [], .nil => rfl
  | _ :: _, n :: _, .cons e h => by
    have ih := eqkb_count (k := k) h
    cases (show _ = Value.bool n from e)
    rw [List.countP_cons, List.count_cons, ih]
    rfl
def rCntB (K : PySem.W.Frag) : V → List V → Hp → VK → Prop := fun x xs H Q => ∃ (p : Addr) (ns : List Bool) (k : Bool), x = .ref p ∧ xs = [.bl k] ∧ SqL K H p (ns.map V.bl) ∧ Q (.int (ns.count k : Nat)) H
theorem mt_lcountB {X : Cx} {K : PySem.W.Frag} (h : X.K = K := by rfl) : MtR X "list.count" (rCntB K) := by
  subst h
  intro pins s σ H x xs v us Q I rx rxs h
  obtain ⟨p, ns, k, rfl, rfl, hs, q⟩ := h
  cases rx
  obtain ⟨u, rfl, ru⟩ := rxs.one
  cases (show u = Value.bool k from ru)
  obtain ⟨its, rv, ⟨⟨cls, dd, data, sl⟩, n, ho, hc, hdn, hd⟩, hlen⟩ := I.list hs
  simp only at hc hd
  subst hc hd
  refine call_meets PySem.F.slot_list_count ⟨_, ho, rfl⟩ PySem.F.entry_list_count (PySem.F.args_list_count_2 _ _)
    (SeqAt.list_countAt p its.toArray n dd sl (.bool k) (eqkb k)) ⟨ho, fun y hy => (eqkb_gives rv y (by simpa using hy)).at _ _, ?_⟩
  have ec : its.toArray.toList.countP (eqkb k) = ns.count k := eqkb_count rv
  refine ⟨.int (ns.count k : Nat), H, I.tok _, ⟨s.toks, ?_⟩, q⟩
  show Value.int ((its.toArray.toList.countP (eqkb k) : Nat) : Int) s.toks = Value.int ((ns.count k : Nat) : Int) s.toks
  rw [ec]
theorem pe_bmK2 {X : Cx} {K : PySem.W.Frag} {o e : Expr} {es : List Expr} {to : TE} {t : TA} {name : Str} {apos cpos : Pos} {T id : String} {r : V → List V → Hp → VK → Prop}
    (pa : PlainAttrs T) (slot : Slot T name id) (hty : typeOf (.builtin id) = pure (.type "method_descriptor")) (hm : MtR X id r) (ho : PE X o to) (ha : PA X (e :: es) t) (hK : X.K = K := by rfl)
    (hbase : attributeBase o name X.env (eval o X.env) = eval o X.env := by rfl)
    (hfew : ((backTo cpos (starEach (e :: es) X.env)).all (fun x => !x.1) && (backToKw cpos (keywordEach [] X.env)).all (fun x => x.1.isSome)
      && decide ((e :: es).length + ([] : List Keyword).length + (if ([] : List Keyword).isEmpty then 0 else 1) < 30)) = true := by rfl)
    (hline : (apos.endLine == cpos.line) = true := by rfl) (hs : starEach (e :: es) X.env = (false, eval e X.env) :: starEach es X.env := by rfl) (hplain : (backTo cpos (starEach es X.env)).any (·.1) = false := by rfl) :
    PE X (.Call (.Attribute o name apos) (e :: es) [] cpos) (tBM K T r to t) := by
  subst hK
  exact pe_bm pa slot hty hm ho ha hbase hfew hline hs hplain
/-! ### the law's counts -/
/-! ### the errors' own __init__ -/
abbrev s_BadText___init__ : Stmt := inClass (topS 6) 0
abbrev N_BadText___init__ : List Str := ["self", "place"]
abbrev p_BadText___init__ : List Str := ["self", "place"]
theorem sc_BadText___init__ : FnScope N_BadText___init__ p_BadText___init__ (defScope s_BadText___init__) := ⟨rfl, rfl, rfl, by decide +kernel, rfl, by decide +kernel, by decide +kernel⟩
theorem ok_BadText___init__ {P : Program} {w : World} {K : PySem.W.Frag} {mg : Str → Option Value} {base : Heap} {C CW fI f : Addr} {fd : FuncData} (WC : WellC K mg CW) (XE : ErrX K mg "BadText" C CW) (XI : ErrI K "place" C fI) (F : Fun K "__init__" "BadText.__init__" s_BadText___init__ f fd) : FnOk P w K mg base CX0 1 f fd p_BadText___init__ (spInit C "place") := by
  refine F.ok sc_BadText___init__ (fun vs H Q E h => ?_) (fun cdv A outer s H vs Q E hr h => ?_)
  · obtain ⟨a, v, rfl, _⟩ := h
    rfl
  obtain ⟨a, v, rfl, ea, q⟩ := h
  refine ⟨_, (pss_cons (ps_expr (pe_weinit WC rfl (pa_cons (pv 0) (pa_cons (pv 1) pa_nil))))
  (pss_one (ps_ost (pv 0) (pv 1)))), ?_⟩
  refine ⟨_, rfl, _, rfl, a, C, [v], rfl, by show 1 ≤ 1000; decide, XE.oex XI, ea, ?_⟩
  exact ⟨_, rfl, _, rfl, a, C, rfl, XE.oex XI, XI.no, .inl ⟨ea, fun d nd nda => q d nd nda⟩⟩
end St

namespace St
open PySem PySem.Spec PyProof.Rows L2
section
variable {P : Program} {w : World} {K : PySem.W.Frag} {mg : Str → Option Value} {base : Heap} {f dS dM fI fN CT CG CW fT fP : Addr} {fd fdI fdN fdT fdP : FuncData}
/-- need_guesser of anything -/
def spNeedX (K : PySem.W.Frag) (CG : Addr) : Sp := fun vs H Q E => ∃ (v : V) (g : G), vs = [v] ∧ IsG K H g v ∧ WfG g ∧ (isG 0 g = true → ∀ H', Same H H' → Q .non H') ∧ (isG 0 g = false → errP CG H E)
theorem okX_need_guesser (T : Nms mg) (B : Tab K w mg dS dM) (XE_BadGuesser : ErrX K mg "BadGuesser" CG CW) (XP_BadGuesser : ErrP K CG) (D_is_guesser : Df K mg "is_guesser" s_is_guesser p_is_guesser fI fdI) (F : Fun K "need_guesser" "need_guesser" s_need_guesser f fd) : FnOk P w K mg base (L2.CX P w) 7 f fd p_need_guesser (spNeedX K CG) := by
  have G_is_guesser : FnOk P w K mg base CX0 5 fI fdI p_is_guesser (spIs K 5) := ok_is_guesser T B D_is_guesser 5
  refine F.okX sc_need_guesser (fun vs H Q E h => ?_) (fun cdv A outer s H vs Q E hr h => ?_)
  · obtain ⟨v, g, rfl, _⟩ := h
    rfl
  obtain ⟨v, g, rfl, hG, hW, q1, q2⟩ := h
  refine ⟨_, (pss_one (ps_if (pt_not (pt_val (pe_call G_is_guesser (hr.mono (by first | decide | omega)) (by rfl) D_is_guesser.m D_is_guesser.F.kp D_is_guesser.b .nil pass0 (pa_cons (pv 0) (pa_cons pe_int pa_nil)))))
    (pss_one (ps_raise rfl (takes_of rfl rfl rfl rfl) (pmk_own PySem.F.excBase_ValueError XP_BadGuesser XE_BadGuesser.g XE_BadGuesser.kp (raises_own XE_BadGuesser.ex XE_BadGuesser.ty) rfl)))
    (pss_nil))), ?_⟩
  refine ⟨_, rfl, ?_⟩
  refine ⟨v, g, 0, rfl, hG, hW, by omega, by omega, fun H1 s1 => ?_⟩
  refine ⟨_, rfl, ?_⟩
  cases e : isG 0 g with
  | true =>
    refine iteB0 (b := !true) rfl ?_
    exact q1 e H1 s1
  | false =>
    refine iteB (b := !false) rfl ?_
    exact q2 e H1 s1
def spPartX (K : PySem.W.Frag) (CT : Addr) (n : Nat) : Sp := fun vs H Q E => ∃ (l : Addr) (k : Nat) (ws : List Str), vs = [.ref l, .int (k : Int)] ∧ SqL K H l (ws.map V.str) ∧ (∀ x ∈ ws, x.length ≤ 100000) ∧ k ≤ ws.length ∧ ws.length < k + n ∧
  (∀ e, partP n ws k = .bad e → errF CT "place" (.int ((e : Nat) : Int)) H E) ∧
  (∀ g j, partP n ws k = .ok g j → ∀ (p : Addr) (v : V) H', Same H H' → IsG K H' g v → H' p = some (.tup [v, .int ((j : Nat) : Int)]) → Q (.ref p) H')
theorem okX_part_at (T : Nms mg) (B : Tab K w mg dS dM) (hF : ∃ t, mg "FIGURES" = some (.str "0123456789" t)) (WC : WellC K mg CW) (XE_BadText : ErrX K mg "BadText" CT CW) (XI_BadText : ErrI K "place" CT fT) (D_BadText___init__ : Ef K "BadText.__init__" s_BadText___init__ p_BadText___init__ fT fdT)
    (D_part_at : Df K mg "part_at" s_part_at p_part_at f fd) : ∀ n : Nat, FnOk P w K mg base (L2.CX P w) (n + 2) f fd p_part_at (spPartX K CT n)
  | 0 => fn_zero fun vs H Q E ⟨l, k, ws, _, _, _, h1, h2, _⟩ => by omega
  | n + 1 => by
    have G_part_at := okX_part_at T B hF WC XE_BadText XI_BadText D_BadText___init__ D_part_at n
    have G_BadText___init__ : FnOk P w K mg base CX0 1 fT fdT p_BadText___init__ (spInit CT "place") := ok_BadText___init__ WC XE_BadText XI_BadText D_BadText___init__.F
    refine D_part_at.F.okX sc_part_at (fun vs H Q E h => ?_) (fun cdv A outer s H vs Q E hr h => ?_)
    · obtain ⟨l, k, ws, rfl, _⟩ := h
      rfl
    obtain ⟨l, k, ws, rfl, hl, lw, hk, hn, qe, qo⟩ := h
    refine ⟨_, (pss_cons (ps_if (PW.pt (pw_or (pt_cmpR op_ge (pv 1) (pe_callB call_len_seq (by rfl) T.n_len (by decide +kernel) (pa_cons (pv 0) pa_nil)) (nomark _)) (pw_or1 (pt_cmpR (op_notIn_id B.i_SORTS) (pe_ix ix_list (pv 0) (pv 1) (fun _ _ => rfl)) (pe_gref (by rfl) B.g_SORTS) (by with_unfolding_all rfl)))))
    (pss_one (ps_raise rfl (takes_of rfl rfl rfl rfl) (pmk_oex (XE_BadText.oex XI_BadText) XI_BadText.iC XI_BadText.tI G_BadText___init__ (hr.mono (by first | decide | omega)) D_BadText___init__.b .nil pass0 rfl XE_BadText.g (pa_cons (pv 1) pa_nil))))
    (pss_nil))
  (pss_cons (ps_if (pt_cmpR op_eq (pe_ix ix_list (pv 0) (pv 1) (fun _ _ => rfl)) pe_str (nomark _))
    (pss_one (ps_ret (pe_tup (pa_cons (pe_tup (pa_cons pe_str pa_nil)) (pa_cons (pe_op op_add (pv 1) pe_int) pa_nil)))))
    (pss_nil))
  (pss_cons (ps_if (pt_cmpR op_eq (pe_ix ix_list (pv 0) (pv 1) (fun _ _ => rfl)) pe_str (nomark _))
    (pss_cons (ps_asg (pe_callS G_part_at (hr.mono (by first | decide | omega)) (by rfl) D_part_at.m D_part_at.F.kp D_part_at.b (fun σ => passAt (takes_of rfl rfl rfl rfl) σ) (pa_cons (pv 0) (pa_cons (pe_op op_add (pv 1) pe_int) pa_nil))) (pg_tup rfl (pgs_cons (pg_name (i := 2) sc_part_at.nd rfl (Or.inl rfl)) (pgs_cons (pg_name (i := 3) sc_part_at.nd rfl (Or.inl rfl)) pgs_nil))))
    (pss_cons (ps_asg (pe_callS G_part_at (hr.mono (by first | decide | omega)) (by rfl) D_part_at.m D_part_at.F.kp D_part_at.b (fun σ => passAt (takes_of rfl rfl rfl rfl) σ) (pa_cons (pv 0) (pa_cons (pv 3) pa_nil))) (pg_tup rfl (pgs_cons (pg_name (i := 4) sc_part_at.nd rfl (Or.inl rfl)) (pgs_cons (pg_name (i := 3) sc_part_at.nd rfl (Or.inl rfl)) pgs_nil))))
    (pss_one (ps_ret (pe_tup (pa_cons (pe_tup (pa_cons pe_str (pa_cons (pv 2) (pa_cons (pv 4) pa_nil)))) (pa_cons (pv 3) pa_nil)))))))
    (pss_nil))
  (pss_cons (ps_if (PW.pt (pw_or (pt_cmpR op_ge (pe_op op_add (pv 1) pe_int) (pe_callB call_len_seq (by rfl) T.n_len (by decide +kernel) (pa_cons (pv 0) pa_nil)) (nomark _)) (pw_or (pt_cmpR op_ne (pe_callB call_len_str (by rfl) T.n_len (by decide +kernel) (pa_cons (pe_ix ix_list (pv 0) (pe_op op_add (pv 1) pe_int) (fun _ _ => rfl)) pa_nil)) pe_int (nomark _)) (pw_or1 (pt_cmpR op_notIn_sign (pe_ix ix_list (pv 0) (pe_op op_add (pv 1) pe_int) (fun _ _ => rfl)) (pe_gstr (by rfl) hF) (by with_unfolding_all rfl))))))
    (pss_one (ps_raise rfl (takes_of rfl rfl rfl rfl) (pmk_oex (XE_BadText.oex XI_BadText) XI_BadText.iC XI_BadText.tI G_BadText___init__ (hr.mono (by first | decide | omega)) D_BadText___init__.b .nil pass0 rfl XE_BadText.g (pa_cons (pe_op op_add (pv 1) pe_int) pa_nil))))
    (pss_nil))
  (pss_one (ps_ret (pe_tup (pa_cons (pe_tup (pa_cons (pe_ix ix_list (pv 0) (pv 1) (fun _ _ => rfl)) (pa_cons (pe_callTy call_int_str (by rfl) T.n_int (by decide +kernel) (pa_cons (pe_ix ix_list (pv 0) (pe_op op_add (pv 1) pe_int) (fun _ _ => rfl)) pa_nil)) pa_nil))) (pa_cons (pe_op op_add (pv 1) pe_int) pa_nil))))))))), ?_⟩
    have hlen : (((ws.map V.str).length : Nat) : Int) = (ws.length : Int) := by rw [List.length_map]
    cases e : ws[k]? with
    | none =>
      have hk2 : ws.length ≤ k := List.getElem?_eq_none_iff.mp e
      have qe := qe _ (part_none e)
      refine ⟨_, rfl, _, rfl, l, _, rfl, .inl hl, _, _, rfl, rfl, _, rfl, iteB (decide_eq_true (by rw [hlen]; omega)) ?_⟩
      refine iteB rfl ?_
      exact ⟨_, rfl, init_err qe⟩
    | some x =>
      have hk1 := (List.getElem?_eq_some_iff.mp e).1
      have a0 : atI (ws.map V.str) (k : Int) = some (.str x) := at_str e
      refine ⟨_, rfl, _, rfl, l, _, rfl, .inl hl, _, _, rfl, rfl, _, rfl, iteB0 (decide_eq_false (by rw [hlen]; omega)) ?_⟩
      refine ⟨_, rfl, _, rfl, _, _, _, _, rfl, rfl, hl, a0, x, rfl, rfl, ?_⟩
      cases e2 : sortsL.lookup x with
      | none =>
        have qe := qe _ (part_bad e e2)
        refine ⟨_, rfl, iteB rfl ?_⟩
        exact ⟨_, rfl, init_err qe⟩
      | some z =>
        refine ⟨_, rfl, iteB0 rfl ?_⟩
        refine ⟨_, rfl, _, rfl, _, _, _, _, rfl, rfl, hl, a0, rfl, _, rfl, ?_⟩
        by_cases c1 : x = "none"
        · refine iteB (decide_eq_true (congrArg V.str c1)) ?_
          have qo := qo _ _ (part_leaf e e2 c1)
          refine ⟨sz_1, fun p1 n1 => ?_⟩
          refine ⟨_, rfl, _, _, rfl, rfl, sz_2, fun p2 n2 => ?_⟩
          exact qo p2 (.ref p1) _ ((same_upd n1).trans (same_upd n2)) ⟨p1, rfl, same_t (same_upd n2) (sqt upd_same)⟩ upd_same
        · refine iteB0 (decide_eq_false fun y => c1 (V.str.inj y)) ?_
          refine ⟨_, rfl, _, rfl, _, _, _, _, rfl, rfl, hl, a0, rfl, _, rfl, ?_⟩
          by_cases c2 : x = "both"
          · refine iteB (decide_eq_true (congrArg V.str c2)) ?_
            refine ⟨_, rfl, _, rfl, _, _, rfl, rfl, ?_⟩
            refine ⟨l, k + 1, ws, rfl, hl, lw, hk1, by omega, fun er h1 => ?_, fun g1 j h1 p1 v1 H1 s1 i1 e1 => ?_⟩
            · exact qe _ (part_both1 e e2 c1 c2 h1)
            have hj := partP_k h1
            refine ⟨p1, _, rfl, sqt e1, rfl, _, _, rfl, _, _, rfl, rfl, ?_⟩
            refine ⟨_, rfl, _, rfl, ?_⟩
            refine ⟨l, j, ws, rfl, same_l s1 hl, lw, hj.2, by omega, fun er h2 => ?_, fun g2 i h2 p2 v2 H2 s2 i2 e3 => ?_⟩
            · exact (qe _ (part_both2 e e2 c1 c2 h1 h2)).after s1
            have qo := qo _ _ (part_both3 e e2 c1 c2 h1 h2)
            refine ⟨p2, _, rfl, sqt e3, rfl, _, _, rfl, _, _, rfl, rfl, ?_⟩
            refine ⟨_, rfl, _, rfl, sz_3, fun p3 n3 => ?_⟩
            refine ⟨_, rfl, sz_2, fun p4 n4 => ?_⟩
            have w3 := same_upd (o := .tup [.str "both", v1, v2]) n3
            have w4 := same_upd (o := .tup [.ref p3, .int ((i : Nat) : Int)]) n4
            exact qo p4 (.ref p3) _ ((s1.trans s2).trans (w3.trans w4)) ⟨p3, v1, v2, rfl, same_t w4 (sqt upd_same), ((i1.same s2).same w3).same w4, (i2.same w3).same w4⟩ upd_same
          · refine iteB0 (decide_eq_false fun y => c2 (V.str.inj y)) ?_
            refine ⟨_, rfl, _, _, rfl, rfl, _, rfl, l, _, rfl, .inl hl, _, _, rfl, rfl, _, rfl, ?_⟩
            cases e3 : ws[k + 1]? with
            | none =>
              have hk3 : ws.length ≤ k + 1 := List.getElem?_eq_none_iff.mp e3
              have qe := qe _ (part_num1 e e2 c1 c2 e3)
              refine iteB (decide_eq_true (by rw [hlen]; omega)) ?_
              refine iteB rfl ?_
              exact ⟨_, rfl, _, _, rfl, rfl, init_err qe⟩
            | some y =>
              have hk3 := (List.getElem?_eq_some_iff.mp e3).1
              have a1 : atI (ws.map V.str) ((k : Int) + 1) = some (.str y) := at_str e3
              refine iteB0 (decide_eq_false (by rw [hlen]; omega)) ?_
              have hy := sz (Nat.le_trans (lw y (List.mem_of_getElem? e3)) (by decide))
              refine ⟨_, rfl, _, rfl, _, _, rfl, rfl, _, _, _, _, rfl, rfl, hl, a1, y, rfl, hy, rfl, _, rfl, ?_⟩
              rcases fig_cases y with ⟨f0, f1⟩ | ⟨c, m, rfl, hc, f0, f1⟩
              · have qe := qe _ (part_num2 e e2 c1 c2 e3 f0)
                rcases f1 with f1 | ⟨c, rfl, hc⟩
                · refine iteB (by rw [decide_eq_false (fun z => f1 (by have := V.int.inj z; omega))]; rfl) ?_
                  refine iteB rfl ?_
                  exact ⟨_, rfl, _, _, rfl, rfl, init_err qe⟩
                · refine iteB0 rfl ?_
                  refine ⟨_, rfl, _, rfl, _, _, rfl, rfl, _, _, _, _, rfl, rfl, hl, a1, c, _, rfl, rfl, _, rfl, ?_⟩
                  refine iteB (by rw [decide_eq_false hc]; rfl) ?_
                  exact ⟨_, rfl, _, _, rfl, rfl, init_err qe⟩
              · have qo := qo _ _ (part_num3 e e2 c1 c2 e3 f0)
                refine iteB0 rfl ?_
                refine ⟨_, rfl, _, rfl, _, _, rfl, rfl, _, _, _, _, rfl, rfl, hl, a1, c, _, rfl, rfl, _, rfl, ?_⟩
                refine iteB0 (by rw [decide_eq_true hc]; rfl) ?_
                refine ⟨_, rfl, _, rfl, _, _, _, _, rfl, rfl, hl, a0, _, rfl, _, rfl, _, _, rfl, rfl, _, _, _, _, rfl, rfl, hl, a1, _, m, rfl, f1, by show 1 ≤ 640; decide, sz_2, fun p1 n1 => ?_⟩
                refine ⟨_, rfl, _, _, rfl, rfl, sz_2, fun p2 n2 => ?_⟩
                exact qo p2 (.ref p1) _ ((same_upd n1).trans (same_upd n2)) ⟨p1, rfl, same_t (same_upd n2) (sqt upd_same)⟩ upd_same
def spReadX (K : PySem.W.Frag) (CT CG : Addr) : Sp := fun vs H Q E => ∃ (t : Str), vs = [.str t] ∧ t.length ≤ 100000 ∧ (wordsT t).length ≤ 30 ∧
  (∀ e, readP t = .text e → errF CT "place" (.int ((e : Nat) : Int)) H E) ∧ (readP t = .gue → errP CG H E) ∧ (∀ g, readP t = .ok g → ∀ v H', Same H H' → IsG K H' g v → Q v H')
theorem okX_read (T : Nms mg) (B : Tab K w mg dS dM) (hF : ∃ t, mg "FIGURES" = some (.str "0123456789" t)) (WC : WellC K mg CW) (XE_BadText : ErrX K mg "BadText" CT CW) (XI_BadText : ErrI K "place" CT fT) (D_BadText___init__ : Ef K "BadText.__init__" s_BadText___init__ p_BadText___init__ fT fdT)
    (XE_BadGuesser : ErrX K mg "BadGuesser" CG CW) (XP_BadGuesser : ErrP K CG) (D_is_guesser : Df K mg "is_guesser" s_is_guesser p_is_guesser fI fdI) (D_need_guesser : Df K mg "need_guesser" s_need_guesser p_need_guesser fN fdN)
    (D_part_at : Df K mg "part_at" s_part_at p_part_at fP fdP) (F : Fun K "read" "read" s_read f fd) : FnOk P w K mg base (L2.CX P w) 40 f fd p_read (spReadX K CT CG) := by
  have G_part_at0 := fun n => okX_part_at (P := P) (base := base) T B hF WC XE_BadText XI_BadText D_BadText___init__ D_part_at n
  have G_need_guesser : FnOk P w K mg base (L2.CX P w) 7 fN fdN p_need_guesser (spNeedX K CG) := okX_need_guesser T B XE_BadGuesser XP_BadGuesser D_is_guesser D_need_guesser.F
  have G_BadText___init__ : FnOk P w K mg base CX0 1 fT fdT p_BadText___init__ (spInit CT "place") := ok_BadText___init__ WC XE_BadText XI_BadText D_BadText___init__.F
  refine F.okX sc_read (fun vs H Q E h => ?_) (fun cdv A outer s H vs Q E hr h => ?_)
  · obtain ⟨t, rfl, _⟩ := h
    rfl
  obtain ⟨t, rfl, tl, hw, qe, qg, qo⟩ := h
  have G_part_at := G_part_at0 ((wordsT t).length + 1)
  refine ⟨_, (pss_cons (ps_set (i := 1) sc_read.nd rfl (Or.inl rfl) (pe_ifExp (pt_cmpR op_ne (pv 0) pe_str (nomark _)) (pe_split (pv 0) pe_str) (pe_lst pa_nil)))
  (pss_cons (ps_asg (pe_callS G_part_at (hr.mono (by first | decide | omega)) (by rfl) D_part_at.m D_part_at.F.kp D_part_at.b (fun σ => passAt (takes_of rfl rfl rfl rfl) σ) (pa_cons (pv 1) (pa_cons pe_int pa_nil))) (pg_tup rfl (pgs_cons (pg_name (i := 2) sc_read.nd rfl (Or.inl rfl)) (pgs_cons (pg_name (i := 3) sc_read.nd rfl (Or.inl rfl)) pgs_nil))))
  (pss_cons (ps_if (pt_cmpR op_lt (pv 3) (pe_callB call_len_seq (by rfl) T.n_len (by decide +kernel) (pa_cons (pv 1) pa_nil)) (nomark _))
    (pss_one (ps_raise rfl (takes_of rfl rfl rfl rfl) (pmk_oex (XE_BadText.oex XI_BadText) XI_BadText.iC XI_BadText.tI G_BadText___init__ (hr.mono (by first | decide | omega)) D_BadText___init__.b .nil pass0 rfl XE_BadText.g (pa_cons (pv 3) pa_nil))))
    (pss_nil))
  (pss_cons (ps_expr (pe_callS G_need_guesser (hr.mono (by first | decide | omega)) (by rfl) D_need_guesser.m D_need_guesser.F.kp D_need_guesser.b (fun σ => passAt (takes_of rfl rfl rfl rfl) σ) (pa_cons (pv 2) pa_nil)))
  (pss_one (ps_ret (pv 2))))))), ?_⟩
  refine ⟨_, rfl, rfl, _, rfl, ?_⟩
  rcases Decidable.em (t = ("" : Str)) with c | c
  all_goals first
    | (refine iteB0 (by rw [decide_eq_true (congrArg V.str c)]; rfl) ?_
       refine ⟨Nat.zero_le _, fun l nl => ?_⟩
       have s1 : Same H (upd H l (.lst [])) := same_upd nl
       have ew : wordsT t = [] := if_pos c
       have hl : SqL K (upd H l (.lst [])) l ((wordsT t).map V.str) := by rw [ew]; exact sql upd_same
       have lw : ∀ x ∈ wordsT t, x.length ≤ 100000 := by rw [ew]; exact fun x hx => nomatch hx
       generalize upd H l (.lst []) = H1 at s1 hl ⊢)
    | (refine iteB (by rw [decide_eq_false (fun z => c (V.str.inj z))]; rfl) ?_
       refine ⟨_, rfl, ⟨_, rfl⟩, _, _, rfl, rfl, rfl, sz (by omega), fun l nl => ?_⟩
       have ew : wordsT t = Txt.split t " " := if_neg c
       have s1 : Same H (upd H l (.lst ((Txt.split t " ").map V.str))) := same_upd nl
       have hl : SqL K (upd H l (.lst ((Txt.split t " ").map V.str))) l ((wordsT t).map V.str) := by rw [ew]; exact sql upd_same
       have lw : ∀ x ∈ wordsT t, x.length ≤ 100000 := by rw [ew]; exact fun x hx => Nat.le_trans (split_len t x hx) tl
       generalize upd H l (.lst ((Txt.split t " ").map V.str)) = H1 at s1 hl ⊢)
  all_goals
    refine ⟨_, rfl, ?_⟩
    refine ⟨l, 0, wordsT t, rfl, hl, lw, Nat.zero_le _, by omega, fun er h1 => ?_, fun g j h1 p1 v1 H2 s2 i1 e1 => ?_⟩
  all_goals first
    | exact (qe _ (by unfold readP; rw [h1])).after s1
    | skip
  all_goals
    have hj := partP_k h1
    have hw := partP_wf h1
    have s12 := s1.trans s2
    refine ⟨p1, _, rfl, sqt e1, rfl, _, _, rfl, _, _, rfl, rfl, ?_⟩
    refine ⟨_, rfl, _, rfl, l, _, rfl, .inl (same_l s2 hl), _, _, rfl, rfl, _, rfl, ?_⟩
    by_cases c2 : j < (wordsT t).length
    · refine iteB (decide_eq_true (by rw [List.length_map]; omega)) ?_
      exact ⟨_, rfl, init_err ((qe _ (by unfold readP; rw [h1]; exact if_pos c2)).after s12)⟩
    · refine iteB0 (decide_eq_false (by rw [List.length_map]; omega)) ?_
      have er : readP t = if isG 0 g = true then .ok g else .gue := by unfold readP; rw [h1]; exact if_neg c2
      refine ⟨_, rfl, v1, g, rfl, i1, hw, fun hg H3 s3 => ?_, fun hg => ?_⟩
      · exact ⟨_, rfl, qo g (by rw [er, if_pos hg]) v1 H3 (s12.trans s3) (i1.same s3)⟩
      · exact (qg (by rw [er, if_neg (by rw [hg]; decide)])).after s12
end
end St

namespace St
open PySem PySem.Spec PyProof.Rows L2 TL
abbrev s__law_place : Stmt := topS 22
abbrev N__law_place : List Str := ["_law_words", "_law_wants", "_law_at", "_law_want", "_law_more"]
abbrev p__law_place : List Str := ["_law_words"]
theorem sc__law_place : FnScope N__law_place p__law_place (defScope s__law_place) := ⟨rfl, rfl, rfl, by decide +kernel, rfl, by decide +kernel, by decide +kernel⟩
abbrev s__law_part : Stmt := topS 23
abbrev N__law_part : List Str := ["_law_words", "_law_at", "_law_one", "_law_there", "_law_other", "_law_behind"]
abbrev p__law_part : List Str := ["_law_words", "_law_at"]
theorem sc__law_part : FnScope N__law_part p__law_part (defScope s__law_part) := ⟨rfl, rfl, rfl, by decide +kernel, rfl, by decide +kernel, by decide +kernel⟩
abbrev s__law_is_good : Stmt := topS 24
abbrev N__law_is_good : List Str := ["_law_guesser_here", "_law_within"]
abbrev p__law_is_good : List Str := ["_law_guesser_here", "_law_within"]
theorem sc__law_is_good : FnScope N__law_is_good p__law_is_good (defScope s__law_is_good) := ⟨rfl, rfl, rfl, by decide +kernel, rfl, by decide +kernel, by decide +kernel⟩
abbrev s__law_due : Stmt := topS 25
abbrev N__law_due : List Str := ["_law_text_here", "_law_words", "_law_place_here", "_law_found"]
abbrev p__law_due : List Str := ["_law_text_here"]
theorem sc__law_due : FnScope N__law_due p__law_due (defScope s__law_due) := ⟨rfl, rfl, rfl, by decide +kernel, rfl, by decide +kernel, by decide +kernel⟩
/-! ### list of a text -/
def rListS : List V → Hp → VK → Prop := fun xs H Q => ∃ (x : Str), xs = [.str x] ∧ x.cps.size ≤ sizeLine ∧ ∀ l, H l = none → Q (.ref l) (upd H l (.lst (x.cps.toList.map fun c => V.str ⟨#[c]⟩)))
theorem vals_signs {x : Str} {acc : Array Value} (h : ItemsOf (SignAt x) acc x.cps.size) : Vals (x.cps.toList.map fun c => V.str ⟨#[c]⟩) acc.toList := by
  have key : ∀ (us : List Value) (cs : List Nat), us.length = cs.length → (∀ (j : Nat) (v : Value), us[j]? = some v → ∃ (c : Nat) (u : Tok), cs[j]? = some c ∧ v = Value.str ⟨#[c]⟩ u) → Vals (cs.map fun c => V.str ⟨#[c]⟩) us := by
    intro us
    induction us with
    | nil => intro cs e _; cases cs with
      | nil => exact .nil
      | cons _ _ => exact nomatch e
    | cons u us ih => intro cs e f; cases cs with
      | nil => exact nomatch e
      | cons c cs =>
        obtain ⟨c', t, h1, h2⟩ := f 0 u rfl
        cases Option.some.inj h1
        exact .cons ⟨t, h2⟩ (ih cs (Nat.succ.inj e) fun j v q => f (j + 1) v q)
  refine key _ _ (by rw [Array.length_toList, h.1]; simp) fun j v q => ?_
  obtain ⟨c, u, h1, h2⟩ := h.2 j v (by rw [← q, Array.getElem?_toList])
  exact ⟨c, u, by rw [← h1, Array.getElem?_toList], h2⟩
theorem call_listS {X : Cx} (hc : X.calm = true) : CallR X (.type "list") rListS := by
  intro pins s σ H xs us Q I r h
  obtain ⟨x, rfl, hz, q⟩ := h
  obtain ⟨u, rfl, rx⟩ := vals1 r
  obtain ⟨t, rfl⟩ := rx
  refine call_list_str (I.ok.hd hc) x t (fun h' tk acc c' kp e hi => ?_) hz
  have rv := vals_signs hi
  have hl : (x.cps.toList.map fun c => V.str ⟨#[c]⟩).length ≤ sizeLine := by rw [List.length_map, Array.length_toList]; exact hz
  exact ⟨.ref s.heap.objs.size, _, I.laid (t' := tk) kp (Nat.le_refl _) (show ObjOk X.prog X.w _ h' _ (.lst _) from ⟨hl, acc.toList, c', rv, by rw [e]⟩), rfl, q _ (I.hok.fresh (Nat.le_refl _))⟩
theorem inV_map (g : Str) : ∀ l : List Str, inV (.str g) (l.map V.str) = decide (g ∈ l)
  | [] => by simp [inV]
  | a :: r => by
    have ih := inV_map g r
    show ((a == g) || inV (.str g) (r.map V.str)) = _
    rw [ih]
    by_cases h : a = g
    · subst h; simp
    · simp [h, Ne.symm h]
theorem fig_in (w : Str) : inV (.str w) (("0123456789" : Str).cps.toList.map fun c => V.str ⟨#[c]⟩) = (figW w).isSome := by
  have e : (("0123456789" : Str).cps.toList.map fun c => V.str ⟨#[c]⟩) = ((("0123456789" : Str).cps.toList.map fun c => (⟨#[c]⟩ : Str)).map V.str) := by rw [List.map_map]; rfl
  rw [e, inV_map]
  rcases fig_cases w with ⟨f0, f1⟩ | ⟨c, m, rfl, hc, f0, f1⟩
  · rw [f0]
    refine decide_eq_false fun h => ?_
    obtain ⟨c, hc, e⟩ := List.mem_map.mp h
    subst e
    rcases f1 with f1 | ⟨d, e, hd⟩
    · exact f1 rfl
    · have : c = d := by injection e with e; simpa using e
      subst this
      exact hd hc
  · rw [f0]
    exact decide_eq_true (List.mem_map.mpr ⟨c, hc, rfl⟩)
def nmW : Wt → Str
  | .gue => "guesser"
  | .num => "number"
def nmL (W : List Wt) : List V := (W.reverse.map nmW).map V.str
theorem nmL_cons (x : Wt) (W : List Wt) : nmL (x :: W) = nmL W ++ [.str (nmW x)] := by unfold nmL; rw [List.reverse_cons, List.map_append, List.map_append]; rfl
theorem cut_last (xs : List V) (v : V) : cutV (xs ++ [v]) none (some (-1)) = xs := by
  unfold cutV
  have e1 : HT.sIx (xs ++ [v]).length 0 none = 0 := rfl
  have e2 : HT.sIx (xs ++ [v]).length (xs ++ [v]).length (some (-1)) = xs.length := by
    unfold HT.sIx
    rw [List.length_append, List.length_singleton]
    simp
    omega
  rw [e1, e2, List.drop_zero, Nat.sub_zero, List.take_left]
theorem nmL_app (m W : List Wt) : nmL (m ++ W) = nmL W ++ nmL m := by unfold nmL; rw [List.reverse_append, List.map_append, List.map_append]
theorem nmL_len (W : List Wt) : (nmL W).length = W.length := by unfold nmL; rw [List.length_map, List.length_map, List.length_reverse]
theorem dp_strs {K : PySem.W.Frag} {H : Hp} : ∀ l : List Str, DpAll K H (l.map V.str) (l.map PyData.str)
  | [] => .nil
  | a :: l => .cons (.str a) (dp_strs l)
theorem lay_nm : ∀ l : List Wt, PyData.canLayAll0 ((l.map nmW).map PyData.str) = true ∧ PyData.depthAll ((l.map nmW).map PyData.str) = 0
  | [] => ⟨by simp [PyData.canLayAll0], by simp [PyData.depthAll]⟩
  | a :: l => by
    have ih := lay_nm l
    have ha : PyData.canLay0 (.str (nmW a)) = true := by cases a <;> decide +kernel
    refine ⟨by rw [List.map_cons, List.map_cons]; simp only [PyData.canLayAll0, ha, ih.1]; rfl, ?_⟩
    rw [List.map_cons, List.map_cons]
    simp only [PyData.depthAll, ih.2, PyData.depth]
    rfl
theorem shaped_nm (W : List Wt) : SeqAt.shaped (.list ((W.reverse.map nmW).map PyData.str)) = true := by
  obtain ⟨a, b⟩ := lay_nm W.reverse
  unfold SeqAt.shaped
  rw [Bool.and_eq_true]
  refine ⟨by simp only [PyData.canLay0]; exact a, decide_eq_true ?_⟩
  simp only [PyData.depth, b]
  omega
theorem eqv_nil (W : List Wt) : PyData.eqv (.list ((W.reverse.map nmW).map PyData.str)) (.list []) = W.isEmpty := by
  simp only [PyData.eqv]
  cases h : (W.reverse.map nmW).map PyData.str with
  | nil =>
    have : W = [] := by simpa using h
    subst this
    simp [PyData.eqvAll]
  | cons a r =>
    cases W with
    | nil => simp at h
    | cons z W => simp [PyData.eqvAll]
def kvM (a1 a2 a3 a4 a5 : Addr) : List (Key × V) := [(.inr "none", .ref a1), (.inr "next", .ref a2), (.inr "stride", .ref a3), (.inr "pairs", .ref a4), (.inr "both", .ref a5)]
theorem val_more {H : Hp} {a1 a2 a3 a4 a5 : Addr} (e1 : H a1 = some (.lst (nmL []))) (e2 : H a2 = some (.lst (nmL [.num]))) (e3 : H a3 = some (.lst (nmL [.num]))) (e4 : H a4 = some (.lst (nmL [.num]))) (e5 : H a5 = some (.lst (nmL [.gue, .gue]))) (x : Str) :
    (more x = none ∧ valV (kvM a1 a2 a3 a4 a5) (.inr x) = none) ∨ ∃ m a, more x = some m ∧ valV (kvM a1 a2 a3 a4 a5) (.inr x) = some (.ref a) ∧ H a = some (.lst (nmL m)) ∧ m.length ≤ 2 := by
  by_cases h1 : x = "none"
  · subst h1; exact .inr ⟨_, a1, rfl, rfl, e1, by decide⟩
  by_cases h2 : x = "next"
  · subst h2; exact .inr ⟨_, a2, rfl, rfl, e2, by decide⟩
  by_cases h3 : x = "stride"
  · subst h3; exact .inr ⟨_, a3, rfl, rfl, e3, by decide⟩
  by_cases h4 : x = "pairs"
  · subst h4; exact .inr ⟨_, a4, rfl, rfl, e4, by decide⟩
  by_cases h5 : x = "both"
  · subst h5; exact .inr ⟨_, a5, rfl, rfl, e5, by decide⟩
  refine .inl ⟨?_, ?_⟩
  · unfold more
    rw [if_neg h1, if_neg (by rintro (h | h | h) <;> contradiction), if_neg h5]
  · simp [kvM, valV, Ne.symm h1, Ne.symm h2, Ne.symm h3, Ne.symm h4, Ne.symm h5]
section
variable {P : Program} {w : World} {K : PySem.W.Frag} {mg : Str → Option Value} {base : Heap} {f f1 f2 f3 : Addr} {fd fd1 fd2 fd3 : FuncData}
def plV : Option Nat → V
  | none => .non
  | some k => .int ((k : Nat) : Int)
def spLPl (K : PySem.W.Frag) : Sp := fun vs H Q _ => ∃ (l : Addr) (ws : List Str), vs = [.ref l] ∧ SqL K H l (ws.map V.str) ∧ ws.length ≤ 1000 ∧ ∀ H', Same H H' → Q (plV (scan ws 0 [.gue])) H'
theorem ok__law_place (T : Nms mg) (F : Fun K "_law_place" "_law_place" s__law_place f fd) : FnOk P w K mg base CX0 1 f fd p__law_place (spLPl K) := by
  refine F.ok sc__law_place (fun vs H Q E h => ?_) (fun cdv A outer s H vs Q E hr h => ?_)
  · obtain ⟨l, ws, rfl, _⟩ := h
    rfl
  obtain ⟨l, ws, rfl, hl, lw, q⟩ := h
  refine ⟨_, (pss_cons (ps_set (i := 1) sc__law_place.nd rfl (Or.inl rfl) (pe_lst (pa_cons pe_str pa_nil)))
  (pss_cons (ps_for PassesOwn.never rfl (pi_range1 rfl T.n_range (pa_cons (pe_callB call_len_seq (by rfl) T.n_len (by decide +kernel) (pa_cons (pv 0) pa_nil)) pa_nil)) (pg_name (i := 2) sc__law_place.nd rfl (Or.inl rfl))
    (pss_cons (ps_set (i := 3) sc__law_place.nd rfl (Or.inl rfl) (pe_ix ix_list (pe_op op_cat (pe_lst (pa_cons pe_str pa_nil)) (pv 1)) (pe_un un_neg pe_int) (fun _ _ => rfl)))
    (pss_cons (ps_if (PW.pt (pw_or (pt_cmpR op_eq (pv 3) pe_str (nomark _)) (pw_or1 (PW.pt (pw_and (pt_cmpR op_eq (pv 3) pe_str (nomark _)) (pw_and1 (pt_cmpR op_notIn_seq (pe_ix ix_list (pv 0) (pv 2) (fun _ _ => rfl)) (pe_callTy (call_listS rfl) (by rfl) T.n_list (by decide +kernel) (pa_cons pe_str pa_nil)) (by with_unfolding_all rfl))))))))
      (pss_one (ps_ret (pv 2)))
      (pss_nil))
    (pss_cons (ps_set (i := 1) sc__law_place.nd rfl (Or.inl rfl) (pe_slice sl_list (pv 1) po_none (po_some (pe_un un_neg pe_int))))
    (pss_one (ps_if (pt_cmpR op_eq (pv 3) pe_str (nomark _))
      (pss_cons (ps_set (i := 4) sc__law_place.nd rfl (Or.inl rfl) (pe_disp (pps_cons pe_str (pe_lst pa_nil) (pps_cons pe_str (pe_lst (pa_cons pe_str pa_nil)) (pps_cons pe_str (pe_lst (pa_cons pe_str pa_nil)) (pps_cons pe_str (pe_lst (pa_cons pe_str pa_nil)) pps_nil)))) (by rfl) (by rfl) (fun z => by cases z) (by decide)))
      (pss_cons (ps_dput (hu_of hr) (pv 4) pe_str (pe_lst (pa_cons pe_str (pa_cons pe_str pa_nil))) rfl)
      (pss_cons (ps_if (pt_cmp (pc_dnotin (hu_of hr) (pe_ix ix_list (pv 0) (pv 2) (fun _ _ => rfl)) (pv 4)) rfl)
        (pss_one (ps_ret (pv 2)))
        (pss_nil))
      (pss_one (ps_set (i := 1) sc__law_place.nd rfl (Or.inl rfl) (pe_op op_cat (pv 1) (pe_dget (hu_of hr) (pv 4) (pe_ix ix_list (pv 0) (pv 2) (fun _ _ => rfl)) (fun _ _ => rfl))))))))
      (pss_nil)))))))
  (pss_one (ps_ret (pe_ifExp (pt_cmpR (op_eqD hr.units) (pv 1) (pe_lst pa_nil) (nomark _)) pe_non (pe_callB call_len_seq (by rfl) T.n_len (by decide +kernel) (pa_cons (pv 0) pa_nil))))))), ?_⟩
  refine ⟨sz_1, fun w0 nw0 => ?_⟩
  have s0 := same_upd (o := .lst [.str "guesser"]) nw0
  refine ⟨_, rfl, l, _, rfl, .inl (same_l s0 hl), _, rfl, by rw [List.length_map]; omega, by rw [List.length_map]; omega, ?_⟩
  rw [show ((((ws.map V.str).length : Nat) : Int)).toNat = ws.length by rw [List.length_map]; exact Int.toNat_natCast _]
  refine for_range (lo := 0) (n := ws.length) (fun i σ H' => ∃ wa y2 y3 y4 W, σ = [some (.ref l), some (.ref wa), y2, y3, y4] ∧ Same H H' ∧ H' wa = some (.lst (nmL W)) ∧ scan ws 0 [.gue] = scan (ws.drop i) i W ∧ W.length ≤ i + 1)
    ⟨w0, none, none, none, [.gue], rfl, s0, upd_same, by rw [List.drop_zero], Nat.le_refl _⟩ (fun i σ H' hi h => ?_) (fun σ H' h => ?_)
  · obtain ⟨wa, y2, y3, y4, W, rfl, s1, ew, es, lW⟩ := h
    have e0 : ws[i]? = some ws[i] := List.getElem?_eq_getElem hi
    generalize ws[i] = x at e0
    have ed := drop_at e0
    have lnm : (nmL W).length ≤ 2000 := by unfold nmL; rw [List.length_map, List.length_map, List.length_reverse]; omega
    refine ⟨sz_1, fun l1 n1 => ?_⟩
    have w1 := same_upd (o := .lst [.str "end"]) n1
    refine ⟨_, rfl, l1, wa, _, _, rfl, rfl, upd_same, w1 _ _ ew, sz (by show 1 + (nmL W).length ≤ 1000000; omega), fun p np => ?_⟩
    have w2 := w1.trans (same_upd (o := .lst ([.str "end"] ++ nmL W)) np)
    have ew2 := w2 _ _ ew
    have s2 := s1.trans w2
    have a0 : atI (ws.map V.str) (0 + (i : Int)) = some (.str x) := by rw [Int.zero_add]; exact at_str e0
    have ep : (upd (upd H' l1 (.lst [.str "end"])) p (.lst ([.str "end"] ++ nmL W))) p = some (.lst ([.str "end"] ++ nmL W)) := upd_same
    generalize upd (upd H' l1 (.lst [.str "end"])) p (.lst ([.str "end"] ++ nmL W)) = H2 at ew2 s2 ep ⊢
    cases W with
    | nil =>
      refine ⟨_, rfl, _, _, _, _, rfl, rfl, sql ep, rfl, ?_⟩
      refine ⟨_, rfl, rfl, _, rfl, iteB (decide_eq_true rfl) (iteB rfl ?_)⟩
      have er : scan ws 0 [.gue] = some i := by rw [es, ed]; rfl
      have q := q H2 s2
      rw [er] at q
      refine ⟨_, rfl, ?_⟩
      rw [Int.zero_add]
      exact q
    | cons z W =>
      rw [nmL_cons, ← List.append_assoc] at ep
      rw [nmL_cons] at ew2
      refine ⟨_, rfl, _, _, _, _, rfl, rfl, sql ep, atI_last _ _, ?_⟩
      have hne : ¬ (V.str (nmW z) = V.str "end") := fun q => by cases z <;> exact absurd (V.str.inj q) (by decide)
      refine ⟨_, rfl, rfl, _, rfl, iteB0 (decide_eq_false hne) ?_⟩
      have ex : ∀ (k : Option Nat), scan ws 0 [.gue] = k → ∀ H3, Same H2 H3 → Q (plV k) H3 := fun k e H3 s3 => by rw [← e]; exact q H3 (s2.trans s3)
      cases z with
      | num =>
        refine ⟨_, rfl, rfl, _, rfl, iteB (decide_eq_true rfl) ?_⟩
        refine ⟨_, rfl, _, rfl, _, _, _, _, rfl, rfl, same_l s2 hl, a0, _, rfl, by decide, fun lz nlz => ?_⟩
        have w3 := same_upd (o := .lst (("0123456789" : Str).cps.toList.map fun c => V.str ⟨#[c]⟩)) nlz
        refine ⟨lz, _, rfl, .inl (sql upd_same), rfl, by decide, _, rfl, ?_⟩
        rw [if_pos rfl, fig_in]
        have ew3 := w3 _ _ ew2
        have s3 := s2.trans w3
        generalize upd H2 lz (.lst (("0123456789" : Str).cps.toList.map fun c => V.str ⟨#[c]⟩)) = H3 at w3 ew3 s3 ⊢
        cases ef : figW x with
        | none =>
          refine iteB rfl ?_
          refine ⟨_, rfl, ?_⟩
          rw [Int.zero_add]
          refine ex (some i) ?_ H3 w3
          rw [es, ed]
          show (if (figW x).isSome = true then _ else _) = _
          rw [ef]; rfl
        | some m =>
          refine iteB0 rfl ?_
          refine ⟨_, rfl, _, rfl, _, rfl, wa, _, rfl, sql ew3, fun p2 np2 => ?_⟩
          rw [cut_last]
          refine ⟨_, rfl, rfl, _, rfl, iteB0 (decide_eq_false (by decide)) ?_⟩
          refine ⟨p2, _, _, _, W, rfl, s3.trans (same_upd np2), upd_same, ?_, by rw [List.length_cons] at lW; omega⟩
          rw [es, ed]
          show (if (figW x).isSome = true then _ else _) = _
          rw [ef]; rfl
      | gue =>
        refine ⟨_, rfl, rfl, _, rfl, iteB0 (decide_eq_false (by decide)) ?_⟩
        refine iteB0 rfl ?_
        refine ⟨_, rfl, _, rfl, _, rfl, wa, _, rfl, sql ew2, fun p2 np2 => ?_⟩
        rw [cut_last]
        refine ⟨_, rfl, rfl, _, rfl, iteB (decide_eq_true rfl) ?_⟩
        have w3 := same_upd (o := .lst (nmL W)) np2
        have ew3 : (upd H2 p2 (.lst (nmL W))) p2 = some (.lst (nmL W)) := upd_same
        have s3 := s2.trans w3
        generalize upd H2 p2 (.lst (nmL W)) = H3 at w3 ew3 s3 ⊢
        intro d nd
        refine ⟨Nat.zero_le _, fun a1 n1 => ⟨sz_1, fun a2 n2 => ⟨sz_1, fun a3 n3 => ⟨sz_1, fun a4 n4 => ?_⟩⟩⟩⟩
        have t0 := same_upd (o := .dK []) nd
        have t1 := same_upd (o := .lst []) n1
        have t2 := same_upd (o := .lst [.str "number"]) n2
        have t3 := same_upd (o := .lst [.str "number"]) n3
        have t4 := same_upd (o := .lst [.str "number"]) n4
        have ed0 := t4 _ _ (t3 _ _ (t2 _ _ (t1 _ _ upd_same)))
        have f1 := t4 _ _ (t3 _ _ (t2 _ _ upd_same))
        have f2 := t4 _ _ (t3 _ _ upd_same)
        have f3 := t4 _ _ upd_same
        have f4 : (upd (upd (upd (upd (upd H3 d (.dK [])) a1 (.lst [])) a2 (.lst [.str "number"])) a3 (.lst [.str "number"])) a4 (.lst [.str "number"])) a4 = some (.lst [.str "number"]) := upd_same
        have t04 := t0.trans (t1.trans (t2.trans (t3.trans t4)))
        generalize upd (upd (upd (upd (upd H3 d (.dK [])) a1 (.lst [])) a2 (.lst [.str "number"])) a3 (.lst [.str "number"])) a4 (.lst [.str "number"]) = H4 at ed0 f1 f2 f3 f4 t04 ⊢
        refine ⟨ed0, [(.inr "none", .ref a1), (.inr "next", .ref a2), (.inr "stride", .ref a3), (.inr "pairs", .ref a4)], rfl, by show 4 ≤ 15; decide, ?_⟩
        rw [show mergeK [] [((.inr "none" : Key), V.ref a1), (.inr "next", .ref a2), (.inr "stride", .ref a3), (.inr "pairs", .ref a4)] = [(.inr "none", .ref a1), (.inr "next", .ref a2), (.inr "stride", .ref a3), (.inr "pairs", .ref a4)] from rfl]
        have nld : ∀ {a : Addr} {xs : List V}, H4 a = some (.lst xs) → a ≠ d := fun h z => by rw [z, ed0] at h; cases h
        have up1 : ∀ {a : Addr} {xs : List V} {o : HO}, H4 a = some (.lst xs) → (upd H4 d o) a = some (.lst xs) := fun h => by rw [upd_ne (nld h)]; exact h
        have s4 : Same H3 (upd H4 d (.dK [(.inr "none", .ref a1), (.inr "next", .ref a2), (.inr "stride", .ref a3), (.inr "pairs", .ref a4)])) := same_mut t04 nd
        have f1' := up1 (o := .dK [(.inr "none", .ref a1), (.inr "next", .ref a2), (.inr "stride", .ref a3), (.inr "pairs", .ref a4)]) f1
        have f2' := up1 (o := .dK [(.inr "none", .ref a1), (.inr "next", .ref a2), (.inr "stride", .ref a3), (.inr "pairs", .ref a4)]) f2
        have f3' := up1 (o := .dK [(.inr "none", .ref a1), (.inr "next", .ref a2), (.inr "stride", .ref a3), (.inr "pairs", .ref a4)]) f3
        have f4' := up1 (o := .dK [(.inr "none", .ref a1), (.inr "next", .ref a2), (.inr "stride", .ref a3), (.inr "pairs", .ref a4)]) f4
        have ed5 : (upd H4 d (.dK [(.inr "none", .ref a1), (.inr "next", .ref a2), (.inr "stride", .ref a3), (.inr "pairs", .ref a4)])) d = some (.dK [(.inr "none", .ref a1), (.inr "next", .ref a2), (.inr "stride", .ref a3), (.inr "pairs", .ref a4)]) := upd_same
        generalize upd H4 d (.dK [(.inr "none", .ref a1), (.inr "next", .ref a2), (.inr "stride", .ref a3), (.inr "pairs", .ref a4)]) = H5 at s4 f1' f2' f3' f4' ed5 ⊢
        refine ⟨sz_2, fun a5 n5 => ?_⟩
        have t5 := same_upd (o := .lst [.str "guesser", .str "guesser"]) n5
        have ed6 := t5 _ _ ed5
        have g1 := t5 _ _ f1'
        have g2 := t5 _ _ f2'
        have g3 := t5 _ _ f3'
        have g4 := t5 _ _ f4'
        have g5 : (upd H5 a5 (.lst [.str "guesser", .str "guesser"])) a5 = some (.lst [.str "guesser", .str "guesser"]) := upd_same
        have s5 := s4.trans t5
        generalize upd H5 a5 (.lst [.str "guesser", .str "guesser"]) = H6 at ed6 g1 g2 g3 g4 g5 s5 ⊢
        refine ⟨_, rfl, d, _, rfl, DPut.k (k := .inr "both") ed6 (by show 4 < sizeLine; decide), ?_⟩
        rw [show putK [((.inr "none" : Key), V.ref a1), (.inr "next", .ref a2), (.inr "stride", .ref a3), (.inr "pairs", .ref a4)] (.inr "both") (.ref a5) = kvM a1 a2 a3 a4 a5 from rfl]
        have nl6 : ∀ {a : Addr} {xs : List V}, H6 a = some (.lst xs) → a ≠ d := fun h z => by rw [z, ed6] at h; cases h
        have s6 : Same H3 (upd H6 d (.dK (kvM a1 a2 a3 a4 a5))) := same_mut s5 nd
        have ed7 : (upd H6 d (.dK (kvM a1 a2 a3 a4 a5))) d = some (.dK (kvM a1 a2 a3 a4 a5)) := upd_same
        have hv := val_more (H := upd H6 d (.dK (kvM a1 a2 a3 a4 a5))) (a1 := a1) (a2 := a2) (a3 := a3) (a4 := a4) (a5 := a5) (by rw [upd_ne (nl6 g1)]; exact g1) (by rw [upd_ne (nl6 g2)]; exact g2) (by rw [upd_ne (nl6 g3)]; exact g3) (by rw [upd_ne (nl6 g4)]; exact g4) (by rw [upd_ne (nl6 g5)]; exact g5) x
        generalize upd H6 d (.dK (kvM a1 a2 a3 a4 a5)) = H7 at s6 ed7 hv ⊢
        have ew7 := s6 _ _ ew3
        have s7 := s3.trans s6
        refine ⟨_, rfl, _, rfl, _, _, _, _, rfl, rfl, same_l s7 hl, a0, _, rfl, d, _, rfl, DGet.k (k := .inr x) ed7, _, rfl, ?_⟩
        rcases hv with ⟨hm, hv⟩ | ⟨m, a, hm, hv, ha, lm⟩
        · rw [hv]
          refine iteB rfl ?_
          refine ⟨_, rfl, ?_⟩
          rw [Int.zero_add]
          refine ex (some i) ?_ H7 (w3.trans s6)
          rw [es, ed]
          show (match more x with | none => some i | some m => scan (ws.drop (i + 1)) (i + 1) (m ++ W)) = _
          rw [hm]
        · rw [hv]
          refine iteB0 rfl ?_
          rw [List.length_cons] at lW
          refine ⟨_, rfl, _, rfl, _, rfl, _, rfl, _, _, _, _, rfl, rfl, same_l s7 hl, a0, d, _, rfl, by rw [← hv]; exact DGet.k (k := .inr x) ed7, ?_⟩
          refine ⟨p2, a, _, _, rfl, rfl, ew7, ha, by rw [nmL_len, nmL_len]; exact sz (by omega), fun p3 np3 => ?_⟩
          refine ⟨p3, _, _, _, m ++ W, rfl, s7.trans (same_upd np3), by rw [nmL_app]; exact upd_same, ?_, by rw [List.length_append]; omega⟩
          rw [es, ed]
          show (match more x with | none => some i | some m => scan (ws.drop (i + 1)) (i + 1) (m ++ W)) = _
          rw [hm]
  · obtain ⟨wa, y2, y3, y4, W, rfl, s1, ew, es, lW⟩ := h
    rw [List.drop_eq_nil_of_le (Nat.le_refl _)] at es
    have es : scan ws 0 [.gue] = if W.isEmpty then none else some ws.length := es
    have q := q
    rw [es] at q
    refine ⟨_, rfl, Nat.zero_le _, fun e ne => ?_⟩
    have w1 := same_upd (o := .lst []) ne
    have s2 := s1.trans w1
    refine ⟨.list ((W.reverse.map nmW).map PyData.str), .list [], .lst (sql (w1 _ _ ew)) (dp_strs _), .lst (sql upd_same) .nil, shaped_nm W, by decide +kernel, ?_⟩
    rw [eqv_nil]
    refine ⟨_, rfl, ?_⟩
    cases W with
    | nil =>
      refine iteB rfl ?_
      exact q _ s2
    | cons z W =>
      refine iteB0 rfl ?_
      refine ⟨_, rfl, l, _, rfl, .inl (same_l s2 hl), ?_⟩
      rw [List.length_map]
      exact q _ s2
/-- the law's way to the guesser -/
def spLPt (K : PySem.W.Frag) (n : Nat) : Sp := fun vs H Q _ => ∃ (l : Addr) (k : Nat) (ws : List Str) (g : G) (j : Nat), vs = [.ref l, .int (k : Int)] ∧ SqL K H l (ws.map V.str) ∧ partP n ws k = .ok g j ∧
  ∀ (p : Addr) (v : V) H', Same H H' → IsG K H' g v → H' p = some (.tup [v, .int ((j : Nat) : Int)]) → Q (.ref p) H'
theorem ok__law_part (T : Nms mg) (D__law_part : Df K mg "_law_part" s__law_part p__law_part f fd) : ∀ n : Nat, FnOk P w K mg base CX0 n f fd p__law_part (spLPt K n)
  | 0 => fn_zero fun vs H Q E ⟨l, k, ws, g, j, _, _, h, _⟩ => by exact nomatch h
  | n + 1 => by
    have G__law_part := ok__law_part T D__law_part n
    refine D__law_part.F.ok sc__law_part (fun vs H Q E h => ?_) (fun cdv A outer s H vs Q E hr h => ?_)
    · obtain ⟨l, k, ws, g, j, rfl, _⟩ := h
      rfl
    obtain ⟨l, k, ws, g, j, rfl, hl, hp, q⟩ := h
    refine ⟨_, (pss_cons (ps_if (pt_cmpR op_eq (pe_ix ix_list (pv 0) (pv 1) (fun _ _ => rfl)) pe_str (nomark _))
    (pss_one (ps_ret (pe_tup (pa_cons (pe_tup (pa_cons pe_str pa_nil)) (pa_cons (pe_op op_add (pv 1) pe_int) pa_nil)))))
    (pss_nil))
  (pss_cons (ps_if (pt_cmpR op_ne (pe_ix ix_list (pv 0) (pv 1) (fun _ _ => rfl)) pe_str (nomark _))
    (pss_one (ps_ret (pe_tup (pa_cons (pe_tup (pa_cons (pe_ix ix_list (pv 0) (pv 1) (fun _ _ => rfl)) (pa_cons (pe_callTy call_int_str (by rfl) T.n_int (by decide +kernel) (pa_cons (pe_ix ix_list (pv 0) (pe_op op_add (pv 1) pe_int) (fun _ _ => rfl)) pa_nil)) pa_nil))) (pa_cons (pe_op op_add (pv 1) pe_int) pa_nil)))))
    (pss_nil))
  (pss_cons (ps_asg (pe_call G__law_part (hr.mono (by first | decide | omega)) (by rfl) D__law_part.m D__law_part.F.kp D__law_part.b .nil pass0 (pa_cons (pv 0) (pa_cons (pe_op op_add (pv 1) pe_int) pa_nil))) (pg_tup rfl (pgs_cons (pg_name (i := 2) sc__law_part.nd rfl (Or.inl rfl)) (pgs_cons (pg_name (i := 3) sc__law_part.nd rfl (Or.inl rfl)) pgs_nil))))
  (pss_cons (ps_asg (pe_call G__law_part (hr.mono (by first | decide | omega)) (by rfl) D__law_part.m D__law_part.F.kp D__law_part.b .nil pass0 (pa_cons (pv 0) (pa_cons (pv 3) pa_nil))) (pg_tup rfl (pgs_cons (pg_name (i := 4) sc__law_part.nd rfl (Or.inl rfl)) (pgs_cons (pg_name (i := 5) sc__law_part.nd rfl (Or.inl rfl)) pgs_nil))))
  (pss_one (ps_ret (pe_tup (pa_cons (pe_tup (pa_cons pe_str (pa_cons (pv 2) (pa_cons (pv 4) pa_nil)))) (pa_cons (pv 5) pa_nil))))))))), ?_⟩
    cases e : ws[k]? with
    | none => rw [part_none e] at hp; exact nomatch hp
    | some x =>
      have a0 : atI (ws.map V.str) (k : Int) = some (.str x) := at_str e
      cases e2 : sortsL.lookup x with
      | none => rw [part_bad e e2] at hp; exact nomatch hp
      | some z =>
        refine ⟨_, rfl, _, rfl, _, _, _, _, rfl, rfl, hl, a0, rfl, _, rfl, ?_⟩
        by_cases c1 : x = "none"
        · refine iteB (decide_eq_true (congrArg V.str c1)) ?_
          rw [part_leaf e e2 c1] at hp
          cases hp
          refine ⟨sz_1, fun p1 n1 => ?_⟩
          refine ⟨_, rfl, _, _, rfl, rfl, sz_2, fun p2 n2 => ?_⟩
          exact q p2 (.ref p1) _ ((same_upd n1).trans (same_upd n2)) ⟨p1, rfl, same_t (same_upd n2) (sqt upd_same)⟩ upd_same
        · refine iteB0 (decide_eq_false fun y => c1 (V.str.inj y)) ?_
          refine ⟨_, rfl, _, rfl, _, _, _, _, rfl, rfl, hl, a0, rfl, _, rfl, ?_⟩
          by_cases c2 : x = "both"
          · refine iteB0 (by rw [decide_eq_true (congrArg V.str c2)]; rfl) ?_
            cases h1 : partP n ws (k + 1) with
            | bad er => rw [part_both1 e e2 c1 c2 h1] at hp; exact nomatch hp
            | ok g1 j1 =>
              cases h2 : partP n ws j1 with
              | bad er => rw [part_both2 e e2 c1 c2 h1 h2] at hp; exact nomatch hp
              | ok g2 j2 =>
                rw [part_both3 e e2 c1 c2 h1 h2] at hp
                cases hp
                refine ⟨_, rfl, _, rfl, _, _, rfl, rfl, ?_⟩
                refine ⟨l, k + 1, ws, g1, j1, rfl, hl, h1, fun p1 v1 H1 s1 i1 e1 => ?_⟩
                refine ⟨p1, _, rfl, sqt e1, rfl, _, _, rfl, _, _, rfl, rfl, ?_⟩
                refine ⟨_, rfl, _, rfl, ?_⟩
                refine ⟨l, j1, ws, g2, _, rfl, same_l s1 hl, h2, fun p2 v2 H2 s2 i2 e3 => ?_⟩
                refine ⟨p2, _, rfl, sqt e3, rfl, _, _, rfl, _, _, rfl, rfl, ?_⟩
                refine ⟨_, rfl, _, rfl, sz_3, fun p3 n3 => ?_⟩
                refine ⟨_, rfl, sz_2, fun p4 n4 => ?_⟩
                have w3 := same_upd (o := .tup [.str "both", v1, v2]) n3
                have w4 := same_upd (o := .tup [.ref p3, .int ((j : Nat) : Int)]) n4
                exact q p4 (.ref p3) _ ((s1.trans s2).trans (w3.trans w4)) ⟨p3, v1, v2, rfl, same_t w4 (sqt upd_same), ((i1.same s2).same w3).same w4, (i2.same w3).same w4⟩ upd_same
          · refine iteB (by rw [decide_eq_false fun y => c2 (V.str.inj y)]; rfl) ?_
            cases e3 : ws[k + 1]? with
            | none => rw [part_num1 e e2 c1 c2 e3] at hp; exact nomatch hp
            | some y =>
              have a1 : atI (ws.map V.str) ((k : Int) + 1) = some (.str y) := at_str e3
              rcases fig_cases y with ⟨f0, f1⟩ | ⟨c, m, rfl, hc, f0, f1⟩
              · rw [part_num2 e e2 c1 c2 e3 f0] at hp; exact nomatch hp
              · rw [part_num3 e e2 c1 c2 e3 f0] at hp
                cases hp
                refine ⟨_, rfl, _, rfl, _, _, _, _, rfl, rfl, hl, a0, _, rfl, _, rfl, _, _, rfl, rfl, _, _, _, _, rfl, rfl, hl, a1, _, m, rfl, f1, by show 1 ≤ 640; decide, sz_2, fun p1 n1 => ?_⟩
                refine ⟨_, rfl, _, _, rfl, rfl, sz_2, fun p2 n2 => ?_⟩
                exact q p2 (.ref p1) _ ((same_upd n1).trans (same_upd n2)) ⟨p1, rfl, same_t (same_upd n2) (sqt upd_same)⟩ upd_same
end
end St

namespace St
open PySem PySem.Spec PyProof.Rows L2 TL
/-! ### guessers that are read -/
def PG : G → Prop
  | .leaf w ns => (w = "none" ∧ ns = []) ∨ ∃ m, ns = [m] ∧ (w = "next" ∨ w = "stride" ∨ w = "pairs")
  | .both a b => PG a ∧ PG b
  | _ => False
theorem partP_pg : ∀ {n : Nat} {ws : List Str} {k : Nat} {g : G} {j : Nat}, partP n ws k = .ok g j → PG g
  | 0, _, _, _, _, h => nomatch h
  | n + 1, ws, k, g, j, h => by
    cases e : ws[k]? with
    | none => rw [part_none e] at h; exact nomatch h
    | some w =>
      cases e2 : sortsL.lookup w with
      | none => rw [part_bad e e2] at h; exact nomatch h
      | some z =>
        by_cases c1 : w = "none"
        · rw [part_leaf e e2 c1] at h
          cases h
          exact .inl ⟨rfl, rfl⟩
        · by_cases c2 : w = "both"
          · cases h1 : partP n ws (k + 1) with
            | bad er => rw [part_both1 e e2 c1 c2 h1] at h; exact nomatch h
            | ok g1 j1 =>
              cases h2 : partP n ws j1 with
              | bad er => rw [part_both2 e e2 c1 c2 h1 h2] at h; exact nomatch h
              | ok g2 j2 =>
                rw [part_both3 e e2 c1 c2 h1 h2] at h
                cases h
                exact ⟨partP_pg h1, partP_pg h2⟩
          · cases e3 : ws[k + 1]? with
            | none => rw [part_num1 e e2 c1 c2 e3] at h; exact nomatch h
            | some f =>
              cases f0 : figW f with
              | none => rw [part_num2 e e2 c1 c2 e3 f0] at h; exact nomatch h
              | some m =>
                rw [part_num3 e e2 c1 c2 e3 f0] at h
                cases h
                refine .inr ⟨m, rfl, ?_⟩
                rcases sorts_cases e2 with q | q | q | q | q
                · exact absurd q.1 c1
                · exact .inl q.1
                · exact .inr (.inl q.1)
                · exact .inr (.inr q.1)
                · exact absurd q.1 c2
theorem isG_none (w : Nat) : isG w (.leaf "none" []) = decide (w ≤ 3) := by
  unfold isG
  rw [show sortsL.lookup ("none" : Str) = some 1 from rfl]
  by_cases h : w ≤ 3 <;> simp [h]
theorem isG_num {x : Str} {m mo : Int} (w : Nat) (h1 : sortsL.lookup x = some 2) (h2 : mostL.lookup x = some mo) (h3 : x ≠ "none") : isG w (.leaf x [m]) = (decide (w ≤ 3) && (decide (1 ≤ m) && decide (m ≤ mo))) := by
  unfold isG numOk
  rw [h1, h2]
  dsimp only
  rw [decide_eq_false h3]
  rfl
/-- data -/
def dG2 : G → PyData
  | .nil => .tuple []
  | .leaf w ns => .tuple (.str w :: ns.map .int)
  | .b1 a => .tuple [.str "both", dG2 a]
  | .both a b => .tuple [.str "both", dG2 a, dG2 b]
  | .b3 a b c => .tuple [.str "both", dG2 a, dG2 b, dG2 c]
theorem dp_ints2 {K : PySem.W.Frag} {H : Hp} : ∀ l : List Int, DpAll K H (l.map V.int) (l.map PyData.int)
  | [] => .nil
  | a :: r => .cons (.int a) (dp_ints2 r)
theorem dp_G2 {K : PySem.W.Frag} {H : Hp} : ∀ {g : G} {v : V}, IsG K H g v → Dp K H v (dG2 g)
  | .nil, _, ⟨_, rfl, h⟩ => .tup h .nil
  | .leaf _ ns, _, ⟨_, rfl, h⟩ => .tup h (.cons (.str _) (dp_ints2 ns))
  | .b1 _, _, ⟨_, _, rfl, h, ha⟩ => .tup h (.cons (.str _) (.cons (dp_G2 ha) .nil))
  | .both _ _, _, ⟨_, _, _, rfl, h, ha, hb⟩ => .tup h (.cons (.str _) (.cons (dp_G2 ha) (.cons (dp_G2 hb) .nil)))
  | .b3 _ _ _, _, ⟨_, _, _, _, rfl, h, ha, hb, hc⟩ => .tup h (.cons (.str _) (.cons (dp_G2 ha) (.cons (dp_G2 hb) (.cons (dp_G2 hc) .nil))))
theorem dep_up2 : ∀ {n : Nat} {d : PyData}, dep n d → dep (n + 1) d
  | 0, _, h => h.elim
  | n + 1, .list ds, h => ⟨h.1, fun d hd => dep_up2 (h.2 d hd)⟩
  | n + 1, .tuple ds, h => ⟨h.1, fun d hd => dep_up2 (h.2 d hd)⟩
  | n + 1, .none, _ => True.intro
  | n + 1, .bool _, _ => True.intro
  | n + 1, .int _, _ => True.intro
  | n + 1, .str _, _ => True.intro
  | n + 1, .dict _, _ => True.intro
theorem dep_le2 {n m : Nat} {d : PyData} (h : dep n d) (l : n ≤ m) : dep m d := by
  induction l with
  | refl => exact h
  | step _ ih => exact dep_up2 ih
theorem dep_G2 : ∀ {w : Nat} {g : G}, PG g → isG w g = true → dep (6 - w) (dG2 g) ∧ w ≤ 3
  | _, .nil, h, _ => h.elim
  | _, .b1 _, h, _ => h.elim
  | _, .b3 _ _ _, h, _ => h.elim
  | w, .both a b, h, hg => by
    have hg : (decide (w ≤ 3) && (isG (w + 1) a && isG (w + 1) b)) = true := hg
    rw [Bool.and_eq_true, Bool.and_eq_true] at hg
    have hw := of_decide_eq_true hg.1
    have ha := dep_G2 h.1 hg.2.1
    have hb := dep_G2 h.2 hg.2.2
    obtain ⟨n, hn⟩ : ∃ n, 6 - w = n + 1 := ⟨5 - w, by omega⟩
    have hn2 : 6 - (w + 1) = n := by omega
    rw [hn2] at ha hb
    rw [hn]
    refine ⟨⟨by show 3 ≤ 100000; decide, fun d hd => ?_⟩, hw⟩
    obtain ⟨k, hk⟩ : ∃ k, n = k + 1 := ⟨n - 1, by omega⟩
    subst hk
    simp only [List.mem_cons, List.not_mem_nil, or_false] at hd
    rcases hd with rfl | rfl | rfl
    · trivial
    · exact ha.1
    · exact hb.1
  | w, .leaf x ns, h, hg => by
    have hw : w ≤ 3 := by
      rcases h with ⟨rfl, rfl⟩ | ⟨m, rfl, hx⟩
      · rw [isG_none] at hg; exact of_decide_eq_true hg
      · have : ∃ mo, sortsL.lookup x = some 2 ∧ mostL.lookup x = some mo ∧ x ≠ "none" := by
          rcases hx with rfl | rfl | rfl
          · exact ⟨3, rfl, rfl, by decide⟩
          · exact ⟨3, rfl, rfl, by decide⟩
          · exact ⟨2, rfl, rfl, by decide⟩
        obtain ⟨mo, h1, h2, h3⟩ := this
        rw [isG_num w h1 h2 h3, Bool.and_eq_true] at hg
        exact of_decide_eq_true hg.1
    refine ⟨?_, hw⟩
    have hl : ns.length ≤ 1 := by
      rcases h with ⟨_, rfl⟩ | ⟨m, rfl, _⟩
      · decide
      · exact Nat.le_refl 1
    refine dep_le2 (n := 2) ⟨by show (PyData.str x :: ns.map PyData.int).length ≤ _; rw [List.length_cons, List.length_map]; omega, fun d hd => ?_⟩ (by omega)
    rcases List.mem_cons.mp hd with rfl | hd
    · trivial
    · obtain ⟨n, _, rfl⟩ := List.mem_map.mp hd
      trivial
def dRd : Rd → PyData
  | .text k => .tuple [.str "text", .int ((k : Nat) : Int)]
  | .gue => .tuple [.str "guesser", .none]
  | .ok g => .tuple [.str "read", dG2 g]
theorem read_dep (t : Str) : dep 7 (dRd (readP t)) := by
  cases e : readP t with
  | text k => exact ⟨by show 2 ≤ 100000; decide, fun d hd => by
      simp only [List.mem_cons, List.not_mem_nil, or_false] at hd
      rcases hd with rfl | rfl <;> trivial⟩
  | gue => exact ⟨by show 2 ≤ 100000; decide, fun d hd => by
      simp only [List.mem_cons, List.not_mem_nil, or_false] at hd
      rcases hd with rfl | rfl <;> trivial⟩
  | ok g =>
    have : PG g ∧ isG 0 g = true := by
      unfold readP at e
      cases h : partP ((wordsT t).length + 1) (wordsT t) 0 with
      | bad k => rw [h] at e; exact nomatch e
      | ok g' j =>
        rw [h] at e
        dsimp only at e
        split at e
        · exact nomatch e
        · split at e
          · rename_i hg
            cases e
            exact ⟨partP_pg h, hg⟩
          · exact nomatch e
    refine ⟨by show 2 ≤ 100000; decide, fun d hd => ?_⟩
    simp only [List.mem_cons, List.not_mem_nil, or_false] at hd
    rcases hd with rfl | rfl
    · trivial
    · exact (dep_G2 this.1 this.2).1
section
variable {P : Program} {w : World} {K : PySem.W.Frag} {mg : Str → Option Value} {base : Heap} {f f1 f2 f3 : Addr} {fd fd1 fd2 fd3 : FuncData}
def spLGd (K : PySem.W.Frag) (n : Nat) : Sp := fun vs H Q _ => ∃ (v : V) (g : G) (m : Nat), vs = [v, .int (m : Int)] ∧ IsG K H g v ∧ PG g ∧ m ≤ 4 ∧ 5 ≤ m + n ∧ ∀ H', Same H H' → Q (.bl (isG m g)) H'
theorem ok__law_is_good (D__law_is_good : Df K mg "_law_is_good" s__law_is_good p__law_is_good f fd) : ∀ n : Nat, FnOk P w K mg base CX0 n f fd p__law_is_good (spLGd K n)
  | 0 => fn_zero fun vs H Q E ⟨v, g, m, _, _, _, h, h2, _⟩ => by omega
  | n + 1 => by
    have G__law_is_good := ok__law_is_good D__law_is_good n
    refine D__law_is_good.F.ok sc__law_is_good (fun vs H Q E h => ?_) (fun cdv A outer s H vs Q E hr h => ?_)
    · obtain ⟨v, g, m, rfl, _⟩ := h
      rfl
    obtain ⟨v, g, m, rfl, hG, hP, h4, h5, q⟩ := h
    refine ⟨_, (pss_cons (ps_if (pt_cmpR op_eq (pe_ix ix_tup (pv 0) pe_int (fun _ _ => rfl)) pe_str (nomark _))
    (pss_one (ps_ret (pe_and (pe_cmpR op_lt (pv 1) pe_int (nomark _)) (pe_and (pe_call G__law_is_good (hr.mono (by first | decide | omega)) (by rfl) D__law_is_good.m D__law_is_good.F.kp D__law_is_good.b .nil pass0 (pa_cons (pe_ix ix_tup (pv 0) pe_int (fun _ _ => rfl)) (pa_cons (pe_op op_add (pv 1) pe_int) pa_nil))) (pe_one (pe_call G__law_is_good (hr.mono (by first | decide | omega)) (by rfl) D__law_is_good.m D__law_is_good.F.kp D__law_is_good.b .nil pass0 (pa_cons (pe_ix ix_tup (pv 0) pe_int (fun _ _ => rfl)) (pa_cons (pe_op op_add (pv 1) pe_int) pa_nil))))))))
    (pss_nil))
  (pss_cons (ps_if (pt_cmpR op_eq (pe_ix ix_tup (pv 0) pe_int (fun _ _ => rfl)) pe_str (nomark _))
    (pss_one (ps_ret (pe_cmpR op_lt (pv 1) pe_int (nomark _))))
    (pss_nil))
  (pss_one (ps_ret (pe_and (pe_cmpR op_lt (pv 1) pe_int (nomark _)) (pe_one (pe_chain op_le op_le pe_int (pe_ix ix_tup (pv 0) pe_int (fun _ _ => rfl)) (pe_dget (hu_of hr) (pe_disp (pps_cons pe_str pe_int (pps_cons pe_str pe_int (pps_cons pe_str pe_int pps_nil))) (by rfl) (by rfl) (fun z => by cases z) (by decide)) (pe_ix ix_tup (pv 0) pe_int (fun _ _ => rfl)) (fun _ _ => rfl))))))))), ?_⟩
    cases g with
    | nil => exact hP.elim
    | b1 _ => exact hP.elim
    | b3 _ _ _ => exact hP.elim
    | both a b =>
      obtain ⟨p, x, y, rfl, hp, ha, hb⟩ := hG
      refine ⟨_, rfl, _, _, _, _, rfl, rfl, hp, atI_nat (j := 0) rfl, rfl, _, rfl, iteB (decide_eq_true rfl) ?_⟩
      have q' : ∀ H', Same H H' → Q (V.bl (decide (m ≤ 3) && (isG (m + 1) a && isG (m + 1) b))) H' := q
      refine ⟨_, rfl, _, _, rfl, rfl, _, rfl, ?_⟩
      by_cases c : m ≤ 3
      · rw [decide_eq_true c] at q'
        refine iteB (decide_eq_true (by omega)) ?_
        have ek : ∀ z : V, ([z, V.int ((m : Int) + 1)] : List V) = [z, V.int ((m + 1 : Nat) : Int)] := fun z => congrArg (fun i : Int => [z, V.int i]) (by omega)
        refine ⟨_, rfl, _, _, _, _, rfl, rfl, hp, atI_nat (j := 1) rfl, _, rfl, _, _, rfl, rfl, ?_⟩
        refine ⟨x, a, m + 1, ek _, ha, hP.1, by omega, by omega, fun H1 s1 => ?_⟩
        refine ⟨_, rfl, ?_⟩
        cases ea : isG (m + 1) a with
        | false =>
          refine iteN Bool.false_ne_true ?_
          rw [ea] at q'
          exact q' H1 s1
        | true =>
          refine iteY rfl ?_
          rw [ea] at q'
          refine ⟨_, rfl, _, _, _, _, rfl, rfl, same_t s1 hp, atI_nat (j := 2) rfl, _, rfl, _, _, rfl, rfl, ?_⟩
          refine ⟨y, b, m + 1, ek _, hb.same s1, hP.2, by omega, by omega, fun H2 s2 => ?_⟩
          exact q' H2 (s1.trans s2)
      · rw [decide_eq_false c] at q'
        refine iteB0 (decide_eq_false (by omega)) ?_
        exact q' H (Same.refl _)
    | leaf x ns =>
      obtain ⟨p, rfl, hp⟩ := hG
      rcases hP with ⟨rfl, rfl⟩ | ⟨k, rfl, hx⟩
      · refine ⟨_, rfl, _, _, _, _, rfl, rfl, hp, atI_nat (j := 0) rfl, rfl, _, rfl, iteB0 (decide_eq_false (by decide)) ?_⟩
        refine ⟨_, rfl, _, _, _, _, rfl, rfl, hp, atI_nat (j := 0) rfl, rfl, _, rfl, iteB (decide_eq_true rfl) ?_⟩
        refine ⟨_, rfl, _, _, rfl, rfl, ?_⟩
        have q := q H (Same.refl _)
        rw [isG_none] at q
        have hh : Q (V.bl (decide ((m : Int) < 4))) H := by rw [show decide ((m : Int) < 4) = decide (m ≤ 3) from decide_eq_decide.mpr (by omega)]; exact q
        exact hh
      · have hb : x ≠ "both" := by rcases hx with rfl | rfl | rfl <;> decide
        have hn : x ≠ "none" := by rcases hx with rfl | rfl | rfl <;> decide
        refine ⟨_, rfl, _, _, _, _, rfl, rfl, hp, atI_nat (j := 0) rfl, rfl, _, rfl, iteB0 (decide_eq_false fun y => hb (V.str.inj y)) ?_⟩
        refine ⟨_, rfl, _, _, _, _, rfl, rfl, hp, atI_nat (j := 0) rfl, rfl, _, rfl, iteB0 (decide_eq_false fun y => hn (V.str.inj y)) ?_⟩
        refine ⟨_, rfl, _, _, rfl, rfl, _, rfl, ?_⟩
        obtain ⟨mo, s1, s2, hv⟩ : ∃ mo, sortsL.lookup x = some 2 ∧ mostL.lookup x = some mo ∧ valV (mergeK [] [((.inr "next" : Key), V.int 3), (.inr "stride", .int 3), (.inr "pairs", .int 2)]) (.inr x) = some (.int mo) := by
          rcases hx with rfl | rfl | rfl
          · exact ⟨3, rfl, rfl, rfl⟩
          · exact ⟨3, rfl, rfl, rfl⟩
          · exact ⟨2, rfl, rfl, rfl⟩
        have q' : ∀ H', Same H H' → Q (V.bl (decide (m ≤ 3) && (decide (1 ≤ k) && decide (k ≤ mo)))) H' := fun H' s => by have := q H' s; rw [isG_num m s1 s2 hn] at this; exact this
        by_cases c : m ≤ 3
        · rw [decide_eq_true c] at q'
          refine iteB (decide_eq_true (by omega)) ?_
          refine ⟨_, rfl, _, _, _, _, rfl, rfl, hp, atI_nat (j := 1) rfl, _, _, rfl, rfl, _, rfl, ?_⟩
          by_cases c2 : 1 ≤ k
          · rw [decide_eq_true c2] at q'
            refine iteB (decide_eq_true c2) ?_
            intro d nd
            refine ⟨upd_same, [(.inr "next", .int 3), (.inr "stride", .int 3), (.inr "pairs", .int 2)], rfl, by show 3 ≤ 15; decide, ?_⟩
            have s3 : Same H (upd (upd H d (.dK [])) d (.dK (mergeK [] [((.inr "next" : Key), V.int 3), (.inr "stride", .int 3), (.inr "pairs", .int 2)]))) := same_mut (same_upd nd) nd
            have ed : (upd (upd H d (.dK [])) d (.dK (mergeK [] [((.inr "next" : Key), V.int 3), (.inr "stride", .int 3), (.inr "pairs", .int 2)]))) d = some (.dK (mergeK [] [((.inr "next" : Key), V.int 3), (.inr "stride", .int 3), (.inr "pairs", .int 2)])) := upd_same
            generalize upd (upd H d (.dK [])) d (.dK (mergeK [] [((.inr "next" : Key), V.int 3), (.inr "stride", .int 3), (.inr "pairs", .int 2)])) = H3 at s3 ed ⊢
            refine ⟨_, rfl, _, _, _, _, rfl, rfl, same_t s3 hp, atI_nat (j := 0) rfl, d, _, rfl, by rw [← hv]; exact DGet.k (k := .inr x) ed, ?_⟩
            exact ⟨_, _, rfl, rfl, q' H3 s3⟩
          · rw [decide_eq_false c2] at q'
            refine iteB0 (decide_eq_false c2) ?_
            exact q' H (Same.refl _)
        · rw [decide_eq_false c] at q'
          refine iteB0 (decide_eq_false (by omega)) ?_
          exact q' H (Same.refl _)
/-- what is due -/
def spDue (K : PySem.W.Frag) : Sp := fun vs H Q _ => ∃ (t : Str), vs = [.str t] ∧ t.length ≤ 100000 ∧ (wordsT t).length ≤ 30 ∧ ∀ p H', Same H H' → Dp K H' (.ref p) (dRd (readP t)) → Q (.ref p) H'
theorem ok__law_due (T : Nms mg) (D__law_place : Df K mg "_law_place" s__law_place p__law_place f1 fd1) (D__law_part : Df K mg "_law_part" s__law_part p__law_part f2 fd2) (D__law_is_good : Df K mg "_law_is_good" s__law_is_good p__law_is_good f3 fd3)
    (F : Fun K "_law_due" "_law_due" s__law_due f fd) : FnOk P w K mg base CX0 40 f fd p__law_due (spDue K) := by
  have G__law_place : FnOk P w K mg base CX0 1 f1 fd1 p__law_place (spLPl K) := ok__law_place T D__law_place.F
  have G__law_part0 := fun n => ok__law_part (P := P) (w := w) (base := base) T D__law_part n
  have G__law_is_good : FnOk P w K mg base CX0 5 f3 fd3 p__law_is_good (spLGd K 5) := ok__law_is_good D__law_is_good 5
  refine F.ok sc__law_due (fun vs H Q E h => ?_) (fun cdv A outer s H vs Q E hr h => ?_)
  · obtain ⟨t, rfl, _⟩ := h
    rfl
  obtain ⟨t, rfl, tl, hw, q⟩ := h
  have G__law_part := G__law_part0 ((wordsT t).length + 1)
  refine ⟨_, (pss_cons (ps_set (i := 1) sc__law_due.nd rfl (Or.inl rfl) (pe_ifExp (pt_cmpR op_ne (pv 0) pe_str (nomark _)) (pe_split (pv 0) pe_str) (pe_lst pa_nil)))
  (pss_cons (ps_set (i := 2) sc__law_due.nd rfl (Or.inl rfl) (pe_call G__law_place (hr.mono (by first | decide | omega)) (by rfl) D__law_place.m D__law_place.F.kp D__law_place.b .nil pass0 (pa_cons (pv 1) pa_nil)))
  (pss_cons (ps_if (pt_cmpR op_notN (pv 2) pe_non (nomark _))
    (pss_one (ps_ret (pe_tup (pa_cons pe_str (pa_cons (pv 2) pa_nil)))))
    (pss_nil))
  (pss_cons (ps_set (i := 3) sc__law_due.nd rfl (Or.inl rfl) (pe_ix ix_tup (pe_call G__law_part (hr.mono (by first | decide | omega)) (by rfl) D__law_part.m D__law_part.F.kp D__law_part.b .nil pass0 (pa_cons (pv 1) (pa_cons pe_int pa_nil))) pe_int (fun _ _ => rfl)))
  (pss_one (ps_ret (pe_ifExp (pt_val (pe_call G__law_is_good (hr.mono (by first | decide | omega)) (by rfl) D__law_is_good.m D__law_is_good.F.kp D__law_is_good.b .nil pass0 (pa_cons (pv 3) (pa_cons pe_int pa_nil)))) (pe_tup (pa_cons pe_str (pa_cons (pv 3) pa_nil))) (pe_tup (pa_cons pe_str (pa_cons pe_non pa_nil)))))))))), ?_⟩
  refine ⟨_, rfl, rfl, _, rfl, ?_⟩
  rcases Decidable.em (t = ("" : Str)) with c | c
  all_goals first
    | (refine iteB0 (by rw [decide_eq_true (congrArg V.str c)]; rfl) ?_
       refine ⟨Nat.zero_le _, fun l nl => ?_⟩
       have s1 : Same H (upd H l (.lst [])) := same_upd nl
       have ew : wordsT t = [] := if_pos c
       have hl : SqL K (upd H l (.lst [])) l ((wordsT t).map V.str) := by rw [ew]; exact sql upd_same
       generalize upd H l (.lst []) = H1 at s1 hl ⊢)
    | (refine iteB (by rw [decide_eq_false (fun z => c (V.str.inj z))]; rfl) ?_
       refine ⟨_, rfl, ⟨_, rfl⟩, _, _, rfl, rfl, rfl, sz (by omega), fun l nl => ?_⟩
       have ew : wordsT t = Txt.split t " " := if_neg c
       have s1 : Same H (upd H l (.lst ((Txt.split t " ").map V.str))) := same_upd nl
       have hl : SqL K (upd H l (.lst ((Txt.split t " ").map V.str))) l ((wordsT t).map V.str) := by rw [ew]; exact sql upd_same
       generalize upd H l (.lst ((Txt.split t " ").map V.str)) = H1 at s1 hl ⊢)
  all_goals
    have er := read_scan t
    refine ⟨_, rfl, l, wordsT t, rfl, hl, by omega, fun H2 s2 => ?_⟩
    have s12 := s1.trans s2
    refine ⟨_, rfl, rfl, _, rfl, ?_⟩
    cases es : scan (wordsT t) 0 [.gue] with
    | some k =>
      rw [es] at er
      refine iteB rfl ?_
      refine ⟨_, rfl, sz_2, fun p np => ?_⟩
      refine q p _ (s12.trans (same_upd np)) ?_
      rw [er]
      exact .tup (sqt upd_same) (.cons (.str _) (.cons (.int _) .nil))
    | none =>
      rw [es] at er
      refine iteB0 rfl ?_
      cases ep : partP ((wordsT t).length + 1) (wordsT t) 0 with
      | bad k =>
        have := (scan_part ((wordsT t).length + 1) (wordsT t) 0 [] (by omega)).1 _ ep
        rw [List.drop_zero, es] at this
        exact nomatch this
      | ok g j =>
        rw [ep] at er
        have er : readP t = if isG 0 g = true then .ok g else .gue := er
        refine ⟨_, rfl, ?_⟩
        refine ⟨l, 0, wordsT t, g, j, rfl, same_l s2 hl, ep, fun p1 v1 H3 s3 i1 e1 => ?_⟩
        have s13 := s12.trans s3
        refine ⟨_, _, _, _, rfl, rfl, sqt e1, atI_nat (j := 0) rfl, ?_⟩
        refine ⟨_, rfl, ?_⟩
        refine ⟨v1, g, 0, rfl, i1, partP_pg ep, by omega, by omega, fun H4 s4 => ?_⟩
        have s14 := s13.trans s4
        refine ⟨_, rfl, ?_⟩
        cases hg : isG 0 g with
        | true =>
          refine iteB rfl ?_
          refine ⟨_, rfl, sz_2, fun p np => ?_⟩
          refine q p _ (s14.trans (same_upd np)) ?_
          rw [er, hg]
          exact .tup (sqt upd_same) (.cons (.str _) (.cons (dp_G2 ((i1.same s4).same (same_upd np))) .nil))
        | false =>
          refine iteB0 rfl ?_
          refine ⟨sz_2, fun p np => ?_⟩
          refine q p _ (s14.trans (same_upd np)) ?_
          rw [er, hg]
          exact .tup (sqt upd_same) (.cons (.str _) (.cons .non .nil))
end
end St

namespace St
open PySem PySem.Spec PyProof.Rows L2
abbrev s__law_reading : Stmt := topS 26
abbrev N__law_reading : List Str := ["_law_text_here", "_law_kinds", "e"]
abbrev p__law_reading : List Str := ["_law_text_here"]
theorem sc__law_reading : FnScope N__law_reading p__law_reading (defScope s__law_reading) := ⟨rfl, rfl, rfl, by decide +kernel, rfl, by decide +kernel, by decide +kernel⟩
section
variable {P : Program} {w : World} {K : PySem.W.Frag} {mg : Str → Option Value} {base : Heap} {f dS dM fI fN CT CG CA CR CS CW fT fP fR : Addr} {fd fdI fdN fdT fdP fdR : FuncData}
/-- the errors' classes, told from each other -/
structure Kinds (K : PySem.W.Frag) (mg : Str → Option Value) (CT CG CA CR CS CW : Addr) : Prop where
  WC : WellC K mg CW
  T : ErrX K mg "BadText" CT CW
  G : ErrX K mg "BadGuesser" CG CW
  A : ErrX K mg "BadAsk" CA CW
  R : ErrX K mg "BadRow" CR CW
  S : ErrX K mg "BadSetting" CS CW
  tt : Two K CT CT true
  tg : Two K CT CG false
  ta : Two K CT CA false
  tr : Two K CT CR false
  ts : Two K CT CS false
  gt : Two K CG CT false
  gg : Two K CG CG true
  ga : Two K CG CA false
  gr : Two K CG CR false
  gs : Two K CG CS false
def spRdg (K : PySem.W.Frag) : Sp := fun vs H Q _ => ∃ (t : Str), vs = [.str t] ∧ t.length ≤ 100000 ∧ (wordsT t).length ≤ 30 ∧ ∀ p H', Same H H' → Dp K H' (.ref p) (dRd (readP t)) → Q (.ref p) H'
theorem ok__law_reading (T : Nms mg) (B : Tab K w mg dS dM) (hF : ∃ t, mg "FIGURES" = some (.str "0123456789" t)) (k : Kinds K mg CT CG CA CR CS CW) (XI_BadText : ErrI K "place" CT fT) (D_BadText___init__ : Ef K "BadText.__init__" s_BadText___init__ p_BadText___init__ fT fdT)
    (XP_BadGuesser : ErrP K CG) (D_is_guesser : Df K mg "is_guesser" s_is_guesser p_is_guesser fI fdI) (D_need_guesser : Df K mg "need_guesser" s_need_guesser p_need_guesser fN fdN)
    (D_part_at : Df K mg "part_at" s_part_at p_part_at fP fdP) (D_read : Df K mg "read" s_read p_read fR fdR) (F : Fun K "_law_reading" "_law_reading" s__law_reading f fd) : FnOk P w K mg base CX0 41 f fd p__law_reading (spRdg K) := by
  have WC := k.WC
  have XE_BadText := k.T
  have XE_BadGuesser := k.G
  have XE_BadAsk := k.A
  have XE_BadRow := k.R
  have XE_BadSetting := k.S
  have G_read : FnOk P w K mg base (L2.CX P w) 40 fR fdR p_read (spReadX K CT CG) := okX_read T B hF WC XE_BadText XI_BadText D_BadText___init__ XE_BadGuesser XP_BadGuesser D_is_guesser D_need_guesser D_part_at D_read.F
  refine F.ok sc__law_reading (fun vs H Q E h => ?_) (fun cdv A outer s H vs Q E hr h => ?_)
  · obtain ⟨t, rfl, _⟩ := h
    rfl
  obtain ⟨t, rfl, tl, hw, q⟩ := h
  refine ⟨_, (pss_one (ps_try_as (i := 2) rfl rfl sc__law_reading.nd rfl rfl ⟨rfl, by decide, Or.inl WC.g⟩ takes0
    (fun W pn xe tk _ => by exact (pss_one (ps_ret (pe_tup (pa_cons pe_str (pa_cons (pe_callS G_read (hr.mono (by first | decide | omega)) (by rfl) D_read.m D_read.F.kp D_read.b (fun σ => passAt tk σ) (pa_cons (pv 0) pa_nil)) pa_nil))))))
    (fun a oe cls d pn hz hf => by exact (pss_cons (ps_set (i := 1) sc__law_reading.nd rfl (Or.inl rfl) (pe_lst (pa_cons (pe_callB (call_isX WC hz hf) (by rfl) T.n_isinstance (by decide +kernel) (pa_cons (pv 2) (pa_cons (pe_gref (by rfl) XE_BadText.g) pa_nil))) (pa_cons (pe_callB (call_isX WC hz hf) (by rfl) T.n_isinstance (by decide +kernel) (pa_cons (pv 2) (pa_cons (pe_gref (by rfl) XE_BadGuesser.g) pa_nil))) (pa_cons (pe_callB (call_isXT WC hz hf) (by rfl) T.n_isinstance (by decide +kernel) (pa_cons (pv 2) (pa_cons (pe_tup (pa_cons (pe_gref (by rfl) XE_BadAsk.g) (pa_cons (pe_gref (by rfl) XE_BadRow.g) (pa_cons (pe_gref (by rfl) XE_BadSetting.g) pa_nil)))) pa_nil))) pa_nil)))))
    (pss_cons (ps_if (PW.pt (pw_or (pt_not (pt_val (pe_callB (call_isX WC hz hf) (by rfl) T.n_isinstance (by decide +kernel) (pa_cons (pv 2) (pa_cons (pe_bltn (v := .ty "ValueError") (u := .type "ValueError") (by rfl) WC.nve (by decide +kernel) rfl) pa_nil))))) (pw_or (pt_cmpR op_ne (pe_bmK2 (K := K) PySem.F.plainAttrs_list PySem.F.slot_list_count PySem.F.type_list_count (mt_lcountB (K := K)) (pv 1) (pa_cons pe_bl pa_nil)) pe_int (nomark _)) (pw_or1 (pt_val (pe_ix (ix_listK (K := K)) (pv 1) pe_int (fun _ _ => rfl)))))))
      (pss_one (ps_ret (pe_tup (pa_cons pe_str (pa_cons pe_non pa_nil)))))
      (pss_nil))
    (pss_one (ps_ret (pe_ifExp (pt_val (pe_ix (ix_listK (K := K)) (pv 1) pe_int (fun _ _ => rfl))) (pe_tup (pa_cons pe_str (pa_cons (pe_xf XE_BadText.xf XI_BadText.no hz hf (pv 2)) pa_nil))) (pe_tup (pa_cons pe_str (pa_cons pe_non pa_nil))))))))))), ?_⟩
  refine ⟨_, rfl, t, rfl, tl, hw, fun er h1 => ?_, fun h1 => ?_, fun g h1 v H1 s1 i1 => ?_⟩
  · intro d H1 s1 nd ed
    refine ⟨true, exm_well WC XE_BadText, fun _ a na => ?_, fun q => nomatch q⟩
    refine ⟨_, rfl, "BadText", CT, .ref CT, .ref CT, true, rfl, XE_BadText, rfl, .own _, .inr ⟨d, _, rfl, ed⟩, kit_ref XE_BadText k.tt, ?_⟩
    refine ⟨_, rfl, "BadText", CT, .ref CG, .ref CG, false, rfl, XE_BadText, rfl, .own _, .inr ⟨d, _, rfl, ed⟩, kit_ref XE_BadGuesser k.tg, ?_⟩
    refine ⟨_, rfl, sz_3, fun tp np => ?_⟩
    have w1 := same_upd (o := .tup [.ref CA, .ref CR, .ref CS]) np
    refine ⟨"BadText", CT, tp, _, _, false, rfl, XE_BadText, rfl, upd_same, .cons (.own _) (.cons (.own _) (.cons (.own _) .nil)), .inr ⟨d, _, rfl, w1 _ _ ed⟩, kit_any3 (kit_ref XE_BadAsk k.ta) (kit_ref XE_BadRow k.tr) (kit_ref XE_BadSetting k.ts), ?_⟩
    refine ⟨sz_3, fun L nL => ?_⟩
    have w2 := w1.trans (same_upd (o := .lst [.bl true, .bl false, .bl false]) nL)
    have eL : (upd (upd H1 tp (.tup [.ref CA, .ref CR, .ref CS])) L (.lst [.bl true, .bl false, .bl false])) L = some (.lst ([true, false, false].map V.bl)) := upd_same
    have ed2 := w2 _ _ ed
    have s2 := s1.trans w2
    generalize upd (upd H1 tp (.tup [.ref CA, .ref CR, .ref CS])) L (.lst [.bl true, .bl false, .bl false]) = H2 at eL ed2 s2 ⊢
    refine ⟨_, rfl, "BadText", CT, .ty "ValueError", .type "ValueError", true, rfl, XE_BadText, rfl, .ty _, .inr ⟨d, _, rfl, ed2⟩, kit_ve XE_BadText, _, rfl, iteB0 (b := !true) rfl ?_⟩
    refine ⟨_, rfl, .inl ⟨rfl, _, sql eL⟩, L, [true, false, false], true, rfl, rfl, sql eL, rfl, _, rfl, iteB0 rfl ?_⟩
    refine ⟨_, rfl, _, _, _, _, rfl, rfl, sql eL, atI_nat (j := 2) rfl, _, rfl, iteB0 rfl ?_⟩
    refine ⟨_, rfl, _, _, _, _, rfl, rfl, sql eL, atI_nat (j := 0) rfl, _, rfl, iteB rfl ?_⟩
    refine ⟨_, rfl, rfl, rfl, d, _, _, rfl, ed2, rfl, sz_2, fun p np2 => ?_⟩
    refine q p _ (s2.trans (same_upd np2)) ?_
    rw [h1]
    exact .tup (sqt upd_same) (.cons (.str _) (.cons (.int _) .nil))
  · intro H1 s1
    refine ⟨true, exm_well WC XE_BadGuesser, fun _ a na => ?_, fun q => nomatch q⟩
    refine ⟨_, rfl, "BadGuesser", CG, .ref CT, .ref CT, false, rfl, XE_BadGuesser, rfl, .own _, .inl rfl, kit_ref XE_BadText k.gt, ?_⟩
    refine ⟨_, rfl, "BadGuesser", CG, .ref CG, .ref CG, true, rfl, XE_BadGuesser, rfl, .own _, .inl rfl, kit_ref XE_BadGuesser k.gg, ?_⟩
    refine ⟨_, rfl, sz_3, fun tp np => ?_⟩
    have w1 := same_upd (o := .tup [.ref CA, .ref CR, .ref CS]) np
    refine ⟨"BadGuesser", CG, tp, _, _, false, rfl, XE_BadGuesser, rfl, upd_same, .cons (.own _) (.cons (.own _) (.cons (.own _) .nil)), .inl rfl, kit_any3 (kit_ref XE_BadAsk k.ga) (kit_ref XE_BadRow k.gr) (kit_ref XE_BadSetting k.gs), ?_⟩
    refine ⟨sz_3, fun L nL => ?_⟩
    have w2 := w1.trans (same_upd (o := .lst [.bl false, .bl true, .bl false]) nL)
    have eL : (upd (upd H1 tp (.tup [.ref CA, .ref CR, .ref CS])) L (.lst [.bl false, .bl true, .bl false])) L = some (.lst ([false, true, false].map V.bl)) := upd_same
    have s2 := s1.trans w2
    generalize upd (upd H1 tp (.tup [.ref CA, .ref CR, .ref CS])) L (.lst [.bl false, .bl true, .bl false]) = H2 at eL s2 ⊢
    refine ⟨_, rfl, "BadGuesser", CG, .ty "ValueError", .type "ValueError", true, rfl, XE_BadGuesser, rfl, .ty _, .inl rfl, kit_ve XE_BadGuesser, _, rfl, iteB0 (b := !true) rfl ?_⟩
    refine ⟨_, rfl, .inl ⟨rfl, _, sql eL⟩, L, [false, true, false], true, rfl, rfl, sql eL, rfl, _, rfl, iteB0 rfl ?_⟩
    refine ⟨_, rfl, _, _, _, _, rfl, rfl, sql eL, atI_nat (j := 2) rfl, _, rfl, iteB0 rfl ?_⟩
    refine ⟨_, rfl, _, _, _, _, rfl, rfl, sql eL, atI_nat (j := 0) rfl, _, rfl, iteB0 rfl ?_⟩
    refine ⟨sz_2, fun p np2 => ?_⟩
    refine q p _ (s2.trans (same_upd np2)) ?_
    rw [h1]
    exact .tup (sqt upd_same) (.cons (.str _) (.cons .non .nil))
  · refine ⟨sz_2, fun p np => ?_⟩
    refine q p _ (s1.trans (same_upd np)) ?_
    rw [h1]
    exact .tup (sqt upd_same) (.cons (.str _) (.cons (dp_G2 (i1.same (same_upd np))) .nil))
end
end St

namespace St
open PySem PySem.Spec PyProof.Rows L2
abbrev s__law_taken : Stmt := topS 18
abbrev N__law_taken : List Str := ["_law_row", "_law_many", "_law_cell"]
abbrev p__law_taken : List Str := ["_law_row", "_law_many"]
theorem sc__law_taken : FnScope N__law_taken p__law_taken (defScope s__law_taken) := ⟨rfl, rfl, rfl, by decide +kernel, rfl, by decide +kernel, by decide +kernel⟩
section
variable {P : Program} {w : World} {K : PySem.W.Frag} {mg : Str → Option Value} {base : Heap} {f : Addr} {fd : FuncData}
theorem ok__law_taken (F : Fun K "_law_taken" "_law_taken" s__law_taken f fd) (T : Nms mg) : FnOk P w K mg base CX0 1 f fd p__law_taken (spTaken K) := by
  refine F.ok sc__law_taken (fun vs H Q E h => ?_) (fun cdv A outer s H vs Q E hr h => ?_)
  · obtain ⟨r, m, rfl, _⟩ := h
    rfl
  obtain ⟨r, m, rfl, ⟨sc, ns, i, s, hr0, hs, h0⟩, hm, q⟩ := h
  refine ⟨_, (pss_cons (ps_asg (pe_op op_add (pe_ix ix_list (pv 0) pe_int (fun _ _ => rfl)) pe_int) (pg_sub (pv 0) pe_int set_list))
  (pss_cons (ps_if (pt_cmpR op_gt (pe_ix ix_list (pv 0) pe_int (fun _ _ => rfl)) (pe_callB call_len_seq (by rfl) T.n_len (by decide +kernel) (pa_cons (pe_ix ix_list (pv 0) pe_int (fun _ _ => rfl)) pa_nil)) (nomark _))
    (pss_cons (ps_asg (pe_op op_mod (pe_op op_add (pe_op op_mul (pe_ix ix_list (pv 0) pe_int (fun _ _ => rfl)) pe_int) pe_int) pe_int) (pg_sub (pv 0) pe_int set_list))
    (pss_one (ps_ret (pe_op op_mod (pe_op op_fdiv (pe_ix ix_list (pv 0) pe_int (fun _ _ => rfl)) pe_int) (pv 1)))))
    (pss_nil))
  (pss_cons (ps_set (i := 2) sc__law_taken.nd rfl (Or.inl rfl) (pe_ix ix_list (pe_ix ix_list (pv 0) pe_int (fun _ _ => rfl)) (pe_op op_sub (pe_ix ix_list (pv 0) pe_int (fun _ _ => rfl)) pe_int) (fun _ _ => rfl)))
  (pss_cons (ps_asg (pe_op op_mod (pe_op op_add (pe_op op_add (pe_op op_mul (pe_ix ix_list (pv 0) pe_int (fun _ _ => rfl)) pe_int) (pv 2)) pe_int) pe_int) (pg_sub (pv 0) pe_int set_list))
  (pss_one (ps_ret (pe_op op_mod (pv 2) (pv 1)))))))), ?_⟩
  have hR : SqL K H r [.ref sc, .int i, .int s] := sql hr0
  have ne : ∀ {o : HO}, Sc K (upd H r o) sc (ns.map V.int) := fun {o} => hs.imm (Imm.upd ⟨_, hr0⟩)
  have fin : ∀ (x s' : Int) (o : HO), 0 ≤ x → x < m → Q (.int x) (upd (upd H r o) r (.lst [.ref sc, .int (i + 1), .int s'])) := fun x s' o h1 h2 => by
    rw [upd_upd]
    exact q x _ h1 h2 SameX.upd ⟨sc, ns, i + 1, s', upd_same, ne, by omega⟩
  and_intros
  have hsc : SqL K (upd H r (.lst [.ref sc, .int (i + 1), .int s])) sc (ns.map V.int) := ne.sql
  and_intros
  refine ite2 (fun c => ?_) (fun c => ?_)
  · and_intros
    exact fin _ _ _ (Int.emod_nonneg _ (by omega)) (Int.emod_lt_of_pos _ hm)
  · have c' : ¬ (((ns.map V.int).length : Nat) : Int) < i + 1 := of_decide_eq_false (Bool.eq_false_iff.mpr c)
    rw [List.length_map] at c'
    and_intros
    have hat : atI (ns.map V.int) (i + 1 - 1) = some (.int (ns[i.toNat]'(by omega))) := by
      have e : i + 1 - 1 = ((i.toNat : Nat) : Int) := by omega
      rw [e]
      refine atI_nat ?_
      rw [List.getElem?_map, List.getElem?_eq_getElem (by omega)]
      rfl
    refine ⟨_, _, _, _, rfl, rfl, hsc, hat, ?_⟩
    and_intros
    exact fin _ _ _ (Int.emod_nonneg _ (by omega)) (Int.emod_lt_of_pos _ hm)
end
end St

namespace St
open PySem PySem.Spec PyProof.Rows L2
theorem eqV_int (a b : Int) : eqV (.int a) (.int b) = decide (a = b) := by
  show (a == b) = _
  exact Bool.beq_eq_decide_eq ..
theorem inV_ints (g : Int) : ∀ l : List Int, inV (.int g) (l.map V.int) = decide (g ∈ l)
  | [] => by simp [inV]
  | a :: r => by
    have ih := inV_ints g r
    unfold inV at ih ⊢
    rw [List.map_cons, List.any_cons, ih, eqV_int]
    by_cases c : a = g
    · subst c; simp
    · by_cases d : g ∈ r
      · simp [c, d]
      · simp [c, d, Ne.symm c]
theorem flat_ints : ∀ l : List Int, (l.map V.int).all flatV = true
  | [] => rfl
  | _ :: r => by rw [List.map_cons, List.all_cons, flat_ints r]; rfl
theorem at_ints {l : List Int} {i : Nat} {y : V} (h : (l.map V.int)[i]? = some y) : ∃ x, y = .int x ∧ l[i]? = some x ∧ l.take (i + 1) = l.take i ++ [x] := by
  rw [List.getElem?_map] at h
  cases e : l[i]? with
  | none => rw [e] at h; cases h
  | some m =>
    rw [e] at h
    cases Option.some.inj h
    exact ⟨m, rfl, rfl, by rw [List.take_add_one, e]; rfl⟩
theorem filter_snoc {α : Type} (f : α → Bool) (l : List α) (x : α) : (l ++ [x]).filter f = l.filter f ++ if f x then [x] else [] := by
  rw [List.filter_append, List.filter_cons]
  split <;> simp
theorem samex_mut {r : Addr} {H H' : Hp} {p : Addr} {o : HO} (e : SameX r H H') (h : H p = none) : SameX r H (upd H' p o) := fun a u n ha => by
  rw [upd_ne (ne_of_none ha h)]
  exact e a u n ha
theorem dp_ints {K : PySem.W.Frag} {H : Hp} {p : Addr} {ns : List Int} (h : SqL K H p (ns.map V.int)) : Dp K H (.ref p) (.list (ns.map PyData.int)) := by
  refine .lst h ?_
  have : ∀ l : List Int, DpAll K H (l.map V.int) (l.map PyData.int) := by
    intro l
    induction l with
    | nil => exact .nil
    | cons a r ih => exact .cons (.int a) ih
  exact this ns
theorem lay_ints (ns : List Int) : SeqAt.shaped (.list (ns.map PyData.int)) = true := by
  have h1 : ∀ l : List Int, PyData.depthAll (l.map PyData.int) = 0 := by
    intro l
    induction l with
    | nil => rfl
    | cons a r ih => simp [PyData.depthAll, PyData.depth, ih]
  have h2 : ∀ l : List Int, PyData.canLayAll0 (l.map PyData.int) = true := by
    intro l
    induction l with
    | nil => rfl
    | cons a r ih => simp [PyData.canLayAll0, PyData.canLay0, ih]
  unfold SeqAt.shaped
  rw [Bool.and_eq_true]
  refine ⟨?_, decide_eq_true ?_⟩
  · simp only [PyData.canLay0]
    exact h2 ns
  · simp only [PyData.depth]
    rw [h1 ns]
    decide
theorem eqv_ints (a b : List Int) : PyData.eqv (.list (a.map PyData.int)) (.list (b.map PyData.int)) = decide (a = b) := by
  simp only [PyData.eqv]
  induction a generalizing b with
  | nil =>
    cases b with
    | nil => simp [PyData.eqvAll]
    | cons y ys => simp [PyData.eqvAll]
  | cons x xs ih =>
    cases b with
    | nil => simp [PyData.eqvAll]
    | cons y ys =>
      simp only [List.map_cons, PyData.eqvAll, PyData.eqv, ih ys, Bool.beq_eq_decide_eq]
      by_cases c : x = y
      · subst c; simp
      · simp [c]
theorem atI_ints {ns : List Int} {x : Int} (h0 : 0 ≤ x) (h1 : x < (ns.length : Nat)) : ∃ y, atI (ns.map V.int) x = some (.int y) ∧ ns[x.toNat]? = some y := by
  obtain ⟨k, rfl⟩ : ∃ k : Nat, x = (k : Int) := ⟨x.toNat, by omega⟩
  have hk : k < ns.length := by omega
  exact ⟨ns[k], atI_nat (by rw [List.getElem?_map, List.getElem?_eq_getElem hk]; rfl), by rw [Int.toNat_natCast, List.getElem?_eq_getElem hk]⟩
theorem cut_to {xs : List V} {k : Int} (h : 0 ≤ k) : cutV xs none (some k) = xs.take k.toNat := by
  obtain ⟨m, rfl⟩ : ∃ m : Nat, k = (m : Int) := ⟨k.toNat, by omega⟩
  unfold cutV
  rw [HT.sIx_none, HT.sIx_nat, List.drop_zero, Int.toNat_natCast]
  by_cases c : m ≤ xs.length
  · rw [Nat.min_eq_left c]; rfl
  · rw [Nat.min_eq_right (by omega), List.take_of_length_le (by omega), List.take_of_length_le (by omega)]
theorem cut_from {xs : List V} {k : Int} (h : 0 ≤ k) : cutV xs (some k) none = xs.drop k.toNat := by
  obtain ⟨m, rfl⟩ : ∃ m : Nat, k = (m : Int) := ⟨k.toNat, by omega⟩
  unfold cutV
  rw [HT.sIx_none, HT.sIx_nat, Int.toNat_natCast]
  by_cases c : m ≤ xs.length
  · rw [Nat.min_eq_left c, List.take_of_length_le (by rw [List.length_drop]; exact Nat.le_refl _)]
  · rw [Nat.min_eq_right (by omega), List.drop_of_length_le (Nat.le_refl _), List.drop_of_length_le (by omega), List.take_nil]
theorem at_last {ps : List Int} {p : Int} (h : ps.getLast? = some p) : atI (ps.map V.int) (-1) = some (.int p) := by
  have hp : ps ≠ [] := by rintro rfl; cases h
  have hl : 0 < ps.length := List.length_pos_iff.mpr hp
  unfold atI ixN
  rw [List.length_map, if_neg (by decide), if_pos (by omega)]
  show (ps.map V.int)[_]? = _
  rw [List.getElem?_map]
  have e : (-1 + (ps.length : Int)).toNat = ps.length - 1 := by omega
  rw [List.getLast?_eq_getElem?] at h
  rw [show ps[_]? = ps[ps.length - 1]? from congrArg (fun z => ps[z]?) (by omega), h]
  rfl
theorem at_ps {ps : List Int} {i : Nat} {z : Int} (e : z = (i : Int)) (h : i < ps.length) : atI (ps.map V.int) z = some (.int (ps.getD i 0)) := by
  subst e
  refine atI_nat ?_
  rw [List.getElem?_map, List.getD_eq_getElem?_getD, List.getElem?_eq_getElem h]
  rfl
theorem flat_rep (x : Int) : ∀ k : Nat, (List.replicate k [V.int x]).flatten = (List.replicate k x).map V.int
  | 0 => rfl
  | k + 1 => by rw [List.replicate_succ, List.flatten_cons, flat_rep x k, List.replicate_succ]; rfl
theorem sl_listK {X : Cx} {K : PySem.W.Frag} (h : X.K = K := by rfl) : SlR X (rSlL K) := h ▸ sl_list
theorem paired_r {α β : Type} {F : α → β → Prop} : ∀ {l₁ : List α} {l₂ : List β}, Paired F l₁ l₂ → ∀ b ∈ l₂, ∃ a, F a b
  | _, _, .nil, _, hb => nomatch hb
  | _, _, .cons h t, b, hb => by
    rcases List.mem_cons.mp hb with rfl | hb
    · exact ⟨_, h⟩
    · exact paired_r t b hb
theorem paired_l {α β : Type} {F : α → β → Prop} : ∀ {l₁ : List α} {l₂ : List β}, Paired F l₁ l₂ → ∀ a ∈ l₁, ∃ b, F a b
  | _, _, .nil, _, hb => nomatch hb
  | _, _, .cons h t, b, hb => by
    rcases List.mem_cons.mp hb with rfl | hb
    · exact ⟨_, h⟩
    · exact paired_l t b hb
theorem neD_K {X : Cx} {K : PySem.W.Frag} (hu : X.A.units + 64 < cLine) (h : X.K = K := by rfl) : OpR X (compareOp .NotEq) (rNeD K) := h ▸ op_neD hu
theorem eqD_K {X : Cx} {K : PySem.W.Frag} (hu : X.A.units + 64 < cLine) (h : X.K = K := by rfl) : OpR X (compareOp .Eq) (rEqD K) := h ▸ op_eqD hu
end St

namespace St
open PySem PySem.Spec PyProof.Rows L2 TL
abbrev s__law_spoilt : Stmt := topS 27
abbrev N__law_spoilt : List Str := ["_law_row", "_law_text_here", "_law_way", "_law_at", "_law_whole", "_law_signs", "_law_sign", "_law_words", "_law_k", "_law_odd", "_law_rest", "_law_j"]
abbrev p__law_spoilt : List Str := ["_law_row", "_law_text_here"]
theorem sc__law_spoilt : FnScope N__law_spoilt p__law_spoilt (defScope s__law_spoilt) := ⟨rfl, rfl, rfl, by decide +kernel, rfl, by decide +kernel, by decide +kernel⟩
/-! ### how long a changed text is, and how many blanks it has -/
def cnt (t : Str) : Nat := (tl t).count 32
theorem spl_wt : ∀ (l acc : List Nat), ((spl [32] 0 acc l).map List.length).sum + (spl [32] 0 acc l).length = acc.length + l.length + 1
  | [], acc => by rw [spl_nil]; simp
  | c :: r, acc => by
    by_cases h : c = 32
    · subst h
      rw [spl_hit (show pre [32] (32 :: r) = true from pre_self [32] r)]
      have ih := spl_wt r []
      show ((acc :: spl [32] 0 [] r).map List.length).sum + (acc :: spl [32] 0 [] r).length = _
      rw [List.map_cons, List.sum_cons, List.length_cons, List.length_cons]
      rw [List.length_nil] at ih
      omega
    · rw [spl_miss (pre_of_head [] r h)]
      have ih := spl_wt r (acc ++ [c])
      rw [List.length_append, List.length_singleton] at ih
      rw [List.length_cons]
      omega
theorem split_wt (t : Str) : wt (Txt.split t " ") = t.length + 1 := by
  have h := spl_wt (tl t) []
  rw [← split_tl, List.map_map, List.length_map, List.length_nil, ← len_tl] at h
  unfold wt
  have e : (Txt.split t " ").map (List.length ∘ tl) = (Txt.split t " ").map (·.length) := List.map_congr_left fun x _ => (len_tl x).symm
  rw [e] at h
  omega
/-- words without blanks: so many, so long -/
structure Wds (n m : Nat) (ws : List Str) : Prop where
  no : ∀ x ∈ ws, (32 : Nat) ∉ tl x
  l : ws.length ≤ n
  w : wt ws ≤ m
theorem split_wds (t : Str) : Wds (cnt t + 1) (t.length + 1) (Txt.split t " ") := ⟨split_no t, Nat.le_of_eq (split_count t), Nat.le_of_eq (split_wt t)⟩
theorem joinL_count : ∀ ls : List (List Nat), (∀ l ∈ ls, (32 : Nat) ∉ l) → (joinL [32] ls).count 32 = ls.length - 1
  | [], _ => rfl
  | [a], h => by
    show a.count 32 = 0
    exact List.count_eq_zero.mpr (h a List.mem_cons_self)
  | a :: b :: r, h => by
    show (a ++ ([32] ++ joinL [32] (b :: r))).count 32 = _
    rw [List.count_append, List.count_append, List.count_eq_zero.mpr (h a List.mem_cons_self), joinL_count (b :: r) fun l hl => h l (List.mem_cons_of_mem _ hl)]
    simp only [List.length_cons]
    show 0 + (1 + (r.length + 1 - 1)) = _
    omega
theorem join_cnt {ws : List Str} (h : ∀ x ∈ ws, (32 : Nat) ∉ tl x) : cnt (Txt.join " " ws) = ws.length - 1 := by
  unfold cnt
  rw [join_eq, tl_join, show tl (" " : Str) = [32] from rfl, joinL_count _ fun l hl => by obtain ⟨x, hx, rfl⟩ := List.mem_map.mp hl; exact h x hx, List.length_map]
theorem wt_take (ws : List Str) (k : Nat) : wt (ws.take k) + wt (ws.drop k) = wt ws := by rw [← wt_append, List.take_append_drop]
theorem Wds.take {n m : Nat} {ws : List Str} (h : Wds n m ws) (k : Nat) : Wds n m (ws.take k) := ⟨fun x hx => h.no x (List.mem_of_mem_take hx), by rw [List.length_take]; have := h.l; omega, by have := wt_take ws k; have := h.w; omega⟩
theorem Wds.drop {n m : Nat} {ws : List Str} (h : Wds n m ws) (k : Nat) : Wds n m (ws.drop k) := ⟨fun x hx => h.no x (List.mem_of_mem_drop hx), by rw [List.length_drop]; have := h.l; omega, by have := wt_take ws k; have := h.w; omega⟩
theorem cnt_app (a b : Str) : cnt (a ++ b) = cnt a + cnt b := by unfold cnt; rw [tl_append, List.count_append]
theorem tl_to (t : Str) (k : Nat) : tl (cutS t none (some (k : Int))) = (tl t).take k := by
  have hl := len_tl t
  unfold cutS
  rw [tl_mk, HT.sIx_none, HT.sIx_nat, List.drop_zero]
  show (tl t).take _ = _
  by_cases c : k ≤ t.length
  · rw [Nat.min_eq_left c]; rfl
  · rw [Nat.min_eq_right (by omega), List.take_of_length_le (by omega), List.take_of_length_le (by omega)]
theorem tl_from (t : Str) (k : Nat) : tl (cutS t (some (k : Int)) none) = (tl t).drop k := by
  have hl := len_tl t
  unfold cutS
  rw [tl_mk, HT.sIx_none, HT.sIx_nat]
  show ((tl t).drop _).take _ = _
  by_cases c : k ≤ t.length
  · rw [Nat.min_eq_left c, List.take_of_length_le (by rw [List.length_drop]; omega)]
  · rw [Nat.min_eq_right (by omega), List.drop_of_length_le (by omega), List.drop_of_length_le (by omega), List.take_nil]
theorem count_two (l : List Nat) (a b : Nat) (h : a ≤ b) : (l.take a).count 32 + (l.drop b).count 32 ≤ l.count 32 := by
  have e : l.count 32 = (l.take a).count 32 + (l.drop a).count 32 := by rw [← List.count_append, List.take_append_drop]
  have e2 : (l.drop a).count 32 = ((l.drop a).take (b - a)).count 32 + (l.drop b).count 32 := by
    rw [show l.drop b = (l.drop a).drop (b - a) by rw [List.drop_drop]; congr 1; omega, ← List.count_append, List.take_append_drop]
  omega
section
variable {P : Program} {w : World} {K : PySem.W.Frag} {mg : Str → Option Value} {base : Heap} {f f1 : Addr} {fd fd1 : FuncData}
def oddS : List Str := ["", "0", "1", "2", "3", "4", "9", "10", "none", "next", "stride", "pairs", "both", "-1"]
theorem odd_ok : ∀ x ∈ oddS, (32 : Nat) ∉ tl x ∧ x.length ≤ 6 := by decide
abbrev wholeS : Str := " !#$&'()*+,-./0123456789:;<=>?@ABCDEFGHIJKLMNOPQRSTUVWXYZ[]^_abcdefghijklmnopqrstuvwxyz{|}~"
def spSpo (K : PySem.W.Frag) : Sp := fun vs H Q _ => ∃ (r : Addr) (t : Str), vs = [.ref r, .str t] ∧ Row K H r ∧ t.length ≤ 20000 ∧
  ∀ (t' : Str) H', SameX r H H' → Row K H' r → t'.length ≤ 2 * t.length + 20 → cnt t' ≤ cnt t + 1 → Q (.str t') H'
theorem ok__law_spoilt (T : Nms mg) (D__law_taken : Df K mg "_law_taken" s__law_taken p__law_taken f1 fd1) (F : Fun K "_law_spoilt" "_law_spoilt" s__law_spoilt f fd) : FnOk P w K mg base CX0 2 f fd p__law_spoilt (spSpo K) := by
  have G__law_taken : FnOk P w K mg base CX0 1 f1 fd1 p__law_taken (spTaken K) := ok__law_taken D__law_taken.F T
  refine F.ok sc__law_spoilt (fun vs H Q E h => ?_) (fun cdv A outer s H vs Q E hr h => ?_)
  · obtain ⟨r, t, rfl, _⟩ := h
    rfl
  obtain ⟨r, t, rfl, hR, hl, q⟩ := h
  refine ⟨_, (pss_cons (ps_set (i := 2) sc__law_spoilt.nd rfl (Or.inl rfl) (pe_call G__law_taken (hr.mono (by first | decide | omega)) (by rfl) D__law_taken.m D__law_taken.F.kp D__law_taken.b .nil pass0 (pa_cons (pv 0) (pa_cons pe_int pa_nil))))
  (pss_cons (ps_set (i := 3) sc__law_spoilt.nd rfl (Or.inl rfl) (pe_call G__law_taken (hr.mono (by first | decide | omega)) (by rfl) D__law_taken.m D__law_taken.F.kp D__law_taken.b .nil pass0 (pa_cons (pv 0) (pa_cons (pe_op op_add (pe_callB call_len_str (by rfl) T.n_len (by decide +kernel) (pa_cons (pv 1) pa_nil)) pe_int) pa_nil))))
  (pss_cons (ps_set (i := 4) sc__law_spoilt.nd rfl (Or.inl rfl) pe_str)
  (pss_cons (ps_set (i := 5) sc__law_spoilt.nd rfl (Or.inl rfl) (pe_ix ix_list (pe_lst (pa_cons pe_str (pa_cons (pv 4) pa_nil))) (pe_op op_fdiv (pe_call G__law_taken (hr.mono (by first | decide | omega)) (by rfl) D__law_taken.m D__law_taken.F.kp D__law_taken.b .nil pass0 (pa_cons (pv 0) (pa_cons pe_int pa_nil))) pe_int) (fun _ _ => rfl)))
  (pss_cons (ps_set (i := 6) sc__law_spoilt.nd rfl (Or.inl rfl) (pe_ix ix_str (pv 5) (pe_call G__law_taken (hr.mono (by first | decide | omega)) (by rfl) D__law_taken.m D__law_taken.F.kp D__law_taken.b .nil pass0 (pa_cons (pv 0) (pa_cons (pe_callB call_len_str (by rfl) T.n_len (by decide +kernel) (pa_cons (pv 5) pa_nil)) pa_nil))) (fun _ _ => rfl)))
  (pss_cons (ps_if (pt_cmpR op_lt (pv 2) pe_int (nomark _))
    (pss_one (ps_ret (pe_op op_add_str (pe_op op_add_str (pe_slice sl_str (pv 1) po_none (po_some (pv 3))) (pe_ix ix_list (pe_lst (pa_cons (pv 6) (pa_cons pe_str (pa_cons pe_str pa_nil)))) (pv 2) (fun _ _ => rfl))) (pe_slice sl_str (pv 1) (po_some (pe_op op_add (pv 3) (pe_callTy call_int1 (by rfl) T.n_int (by decide +kernel) (pa_cons (pe_cmpR op_gt (pv 2) pe_int (nomark _)) pa_nil)))) po_none))))
    (pss_nil))
  (pss_cons (ps_set (i := 7) sc__law_spoilt.nd rfl (Or.inl rfl) (pe_split (pv 1) pe_str))
  (pss_cons (ps_set (i := 8) sc__law_spoilt.nd rfl (Or.inl rfl) (pe_call G__law_taken (hr.mono (by first | decide | omega)) (by rfl) D__law_taken.m D__law_taken.F.kp D__law_taken.b .nil pass0 (pa_cons (pv 0) (pa_cons (pe_callB call_len_seq (by rfl) T.n_len (by decide +kernel) (pa_cons (pv 7) pa_nil)) pa_nil))))
  (pss_cons (ps_set (i := 9) sc__law_spoilt.nd rfl (Or.inl rfl) (pe_lst (pa_cons pe_str (pa_cons pe_str (pa_cons pe_str (pa_cons pe_str (pa_cons pe_str (pa_cons pe_str (pa_cons pe_str (pa_cons pe_str (pa_cons pe_str (pa_cons pe_str (pa_cons pe_str (pa_cons pe_str (pa_cons pe_str (pa_cons pe_str pa_nil))))))))))))))))
  (pss_cons (ps_if (pt_cmpR op_eq (pv 2) pe_int (nomark _))
    (pss_one (ps_set (i := 7) sc__law_spoilt.nd rfl (Or.inl rfl) (pe_op op_cat (pe_slice sl_list (pv 7) po_none (po_some (pv 8))) (pe_slice sl_list (pv 7) (po_some (pe_op op_add (pv 8) pe_int)) po_none))))
    (pss_nil))
  (pss_cons (ps_if (pt_cmpR op_eq (pv 2) pe_int (nomark _))
    (pss_one (ps_set (i := 7) sc__law_spoilt.nd rfl (Or.inl rfl) (pe_op op_cat (pe_slice sl_list (pv 7) po_none (po_some (pe_op op_add (pv 8) pe_int))) (pe_slice sl_list (pv 7) (po_some (pv 8)) po_none))))
    (pss_nil))
  (pss_cons (ps_if (pt_cmpR op_eq (pv 2) pe_int (nomark _))
    (pss_cons (ps_set (i := 10) sc__law_spoilt.nd rfl (Or.inl rfl) (pe_op op_cat (pe_slice sl_list (pv 7) po_none (po_some (pv 8))) (pe_slice sl_list (pv 7) (po_some (pe_op op_add (pv 8) pe_int)) po_none)))
    (pss_cons (ps_set (i := 11) sc__law_spoilt.nd rfl (Or.inl rfl) (pe_call G__law_taken (hr.mono (by first | decide | omega)) (by rfl) D__law_taken.m D__law_taken.F.kp D__law_taken.b .nil pass0 (pa_cons (pv 0) (pa_cons (pe_op op_add (pe_callB call_len_seq (by rfl) T.n_len (by decide +kernel) (pa_cons (pv 10) pa_nil)) pe_int) pa_nil))))
    (pss_one (ps_set (i := 7) sc__law_spoilt.nd rfl (Or.inl rfl) (pe_op op_cat (pe_op op_cat (pe_slice sl_list (pv 10) po_none (po_some (pv 11))) (pe_slice sl_list (pv 7) (po_some (pv 8)) (po_some (pe_op op_add (pv 8) pe_int)))) (pe_slice sl_list (pv 10) (po_some (pv 11)) po_none))))))
    (pss_nil))
  (pss_cons (ps_if (pt_cmpR op_gt (pv 2) pe_int (nomark _))
    (pss_one (ps_set (i := 7) sc__law_spoilt.nd rfl (Or.inl rfl) (pe_op op_cat (pe_op op_cat (pe_slice sl_list (pv 7) po_none (po_some (pv 8))) (pe_lst (pa_cons (pe_ix ix_list (pv 9) (pe_call G__law_taken (hr.mono (by first | decide | omega)) (by rfl) D__law_taken.m D__law_taken.F.kp D__law_taken.b .nil pass0 (pa_cons (pv 0) (pa_cons pe_int pa_nil))) (fun _ _ => rfl)) pa_nil))) (pe_slice sl_list (pv 7) (po_some (pe_op op_add (pv 8) pe_int)) po_none))))
    (pss_nil))
  (pss_one (ps_ret (pe_join pe_str (pv 7))))))))))))))))), ?_⟩
  refine ⟨_, rfl, ?_⟩
  refine ⟨r, 8, rfl, hR, by decide, fun wy H1 x0 x1 s1 hR1 => ?_⟩
  refine ⟨_, rfl, _, rfl, t, rfl, sz (by omega), _, _, rfl, rfl, ?_⟩
  refine ⟨r, _, rfl, hR1, by omega, fun at_ H2 a0 a1 s2 hR2 => ?_⟩
  have sx2 := s1.trans s2
  refine ⟨_, rfl, sz_2, fun l1 n1 => ?_⟩
  have hR3 := hR2.same (same_upd (o := .lst [.str "0123459 nextbohsrid-", .str wholeS]) n1)
  have sx3 := sx2.trans (SameX.of (same_upd (o := .lst [.str "0123459 nextbohsrid-", .str wholeS]) n1))
  have e3 : (upd H2 l1 (.lst [.str "0123459 nextbohsrid-", .str wholeS])) l1 = some (.lst [.str "0123459 nextbohsrid-", .str wholeS]) := upd_same
  have n1r := hR2.nr n1
  generalize upd H2 l1 (.lst [.str "0123459 nextbohsrid-", .str wholeS]) = H3 at hR3 sx3 e3 ⊢
  refine ⟨_, rfl, ?_⟩
  refine ⟨r, 3, rfl, hR3, by decide, fun y H4 y0 y1 s4 hR4 => ?_⟩
  have e4 := s4 _ _ n1r e3
  have sx4 := sx3.trans s4
  obtain ⟨sg, hsg, lsg, hs⟩ : ∃ sg : Str, 0 < sg.length ∧ sg.length ≤ 1000 ∧ atI [V.str "0123459 nextbohsrid-", V.str wholeS] (y / 2) = some (.str sg) := by
    have : y = 0 ∨ y = 1 ∨ y = 2 := by omega
    rcases this with rfl | rfl | rfl
    · exact ⟨_, by decide, by decide, rfl⟩
    · exact ⟨_, by decide, by decide, rfl⟩
    · exact ⟨_, by decide, by decide, rfl⟩
  refine ⟨_, _, rfl, rfl, ⟨by decide, by decide⟩, _, _, _, _, rfl, rfl, sql e4, hs, ?_⟩
  refine ⟨_, rfl, _, rfl, _, rfl, sg, rfl, sz (by omega), ?_⟩
  refine ⟨r, _, rfl, hR4, by omega, fun u H5 u0 u1 s5 hR5 => ?_⟩
  obtain ⟨u, rfl⟩ : ∃ n : Nat, u = ((n : Nat) : Int) := ⟨u.toNat, by omega⟩
  have hu : u < sg.cps.toList.length := by
    have : sg.length = sg.cps.toList.length := len_tl sg
    omega
  refine ⟨sg, _, sg.cps.toList[u], rfl, rfl, sz (by omega), atI_nat (List.getElem?_eq_getElem hu), ?_⟩
  generalize sg.cps.toList[u] = ch
  have sx5 := sx4.trans s5
  clear e4 s5 hR4 hs u1 u0 hu lsg hsg sx4 s4 e3 sx3 hR3 n1r sx2 hR2 hR1 s1 s2 n1
  obtain ⟨at_, rfl⟩ : ∃ n : Nat, at_ = ((n : Nat) : Int) := ⟨at_.toNat, by omega⟩
  refine ⟨_, rfl, _, _, rfl, rfl, _, rfl, ?_⟩
  by_cases c : wy < 3
  · refine iteB (decide_eq_true c) ?_
    refine ⟨_, rfl, _, rfl, _, rfl, t, rfl, sz (by omega), ?_⟩
    refine ⟨_, rfl, sz_3, fun l2 n2 => ?_⟩
    have hR6 := hR5.same (same_upd (o := .lst [.str ⟨#[ch]⟩, .str "", .str " "]) n2)
    have sx6 := sx5.trans (SameX.of (same_upd (o := .lst [.str ⟨#[ch]⟩, .str "", .str " "]) n2))
    obtain ⟨mid, hm, lm, cm, d, hd0, hd⟩ : ∃ mid : Str, atI [V.str ⟨#[ch]⟩, .str "", .str " "] wy = some (.str mid) ∧ mid.length ≤ 1 ∧ cnt mid ≤ 1 ∧ ∃ d : Nat, d ≤ 1 ∧ (if decide (0 < wy) = true then (1 : Int) else 0) = ((d : Nat) : Int) := by
      have : wy = 0 ∨ wy = 1 ∨ wy = 2 := by omega
      have c1 : ∀ z : Nat, cnt (⟨#[z]⟩ : Str) ≤ 1 := fun z => by
        show [z].count 32 ≤ 1
        rw [List.count_singleton]
        split <;> omega
      rcases this with rfl | rfl | rfl
      · exact ⟨_, rfl, Nat.le_refl 1, c1 ch, 0, by decide, rfl⟩
      · exact ⟨_, rfl, by decide, by decide, 1, by decide, rfl⟩
      · exact ⟨_, rfl, by decide, by decide, 1, by decide, rfl⟩
    refine ⟨_, rfl, _, _, _, _, rfl, rfl, sql upd_same, hm, ?_⟩
    have l1 : (cutS t none (some ((at_ : Nat) : Int))).length ≤ t.length := by rw [len_tl, tl_to, List.length_take, len_tl]; omega
    have l2 : (cutS t (some ((at_ + d : Nat) : Int)) none).length ≤ t.length := by rw [len_tl, tl_from, List.length_drop, len_tl]; omega
    refine ⟨_, _, rfl, rfl, sz (by omega), ?_⟩
    refine ⟨_, rfl, _, rfl, _, rfl, _, _, rfl, rfl, .inr ⟨_, rfl, _, _, rfl, rfl, ((at_ + d : Nat) : Int), congrArg V.int (by rw [hd]; omega), t, rfl, sz (by omega), ?_⟩⟩
    refine ⟨_, _, rfl, rfl, by rw [len_app]; exact sz (by omega), ?_⟩
    refine q _ _ sx6 hR6 (by rw [len_app, len_app]; omega) ?_
    rw [cnt_app, cnt_app]
    have := count_two (tl t) at_ (at_ + d) (by omega)
    rw [← tl_to, ← tl_from] at this
    have h1 : cnt (cutS t none (some ((at_ : Nat) : Int))) + cnt (cutS t (some ((at_ + d : Nat) : Int)) none) ≤ cnt t := this
    omega
  · refine iteB0 (decide_eq_false c) ?_
    refine ⟨_, rfl, ⟨_, rfl⟩, _, _, rfl, rfl, rfl, sz (by omega), fun W nW => ?_⟩
    have wd := split_wds t
    have wl := split_count t
    have hW : (tl t).count 32 ≤ t.length := by rw [len_tl]; exact List.count_le_length
    have eW : (upd H5 W (.lst ((Txt.split t " ").map V.str))) W = some (.lst ((Txt.split t " ").map V.str)) := upd_same
    have hR6 := hR5.same (same_upd (o := .lst ((Txt.split t " ").map V.str)) nW)
    have sx6 := sx5.trans (SameX.of (same_upd (o := .lst ((Txt.split t " ").map V.str)) nW))
    have nWr := hR5.nr nW
    generalize upd H5 W (.lst ((Txt.split t " ").map V.str)) = H6 at eW hR6 sx6 ⊢
    generalize Txt.split t " " = ws at wd wl eW
    have wl1 : 1 ≤ ws.length := by omega
    refine ⟨_, rfl, _, rfl, W, _, rfl, .inl (sql eW), ?_⟩
    refine ⟨r, _, rfl, hR6, by rw [List.length_map]; omega, fun k H7 k0 k1 s7 hR7 => ?_⟩
    rw [List.length_map] at k1
    obtain ⟨k, rfl⟩ : ∃ n : Nat, k = ((n : Nat) : Int) := ⟨k.toNat, by omega⟩
    have hk : k < ws.length := by omega
    have eW7 := s7 _ _ nWr eW
    have sx7 := sx6.trans s7
    refine ⟨by show 14 ≤ sizeLine; decide, fun od nod => ?_⟩
    have hR8 := hR7.same (same_upd (o := .lst (oddS.map V.str)) nod)
    have sx8 := sx7.trans (SameX.of (same_upd (o := .lst (oddS.map V.str)) nod))
    have eW8 := same_upd (o := .lst (oddS.map V.str)) nod _ _ eW7
    have eod : (upd H7 od (.lst (oddS.map V.str))) od = some (.lst (oddS.map V.str)) := upd_same
    have nodr := hR7.nr nod
    have hH8 : upd H7 od (.lst (oddS.map V.str)) = upd H7 od (.lst [.str "", .str "0", .str "1", .str "2", .str "3", .str "4", .str "9", .str "10", .str "none", .str "next", .str "stride", .str "pairs", .str "both", .str "-1"]) := rfl
    rw [← hH8]
    generalize upd H7 od (.lst (oddS.map V.str)) = H8 at hR8 sx8 eW8 eod ⊢
    clear hH8 eW7 eW s7 hR7 hR6 sx6 sx7
    have fin : ∀ (ws' : List Str) H', SameX r H H' → Row K H' r → (∀ x ∈ ws', (32 : Nat) ∉ tl x) → ws'.length ≤ ws.length + 1 → wt ws' ≤ 2 * wt ws + 10 →
        (ws'.map (·.length)).sum + ws'.length * (" " : Str).length ≤ 16777216 ∧ Q (.str (Txt.join " " ws')) H' := fun ws' H' s1 h1 no hl' hw' => by
      have w0 := wd.w
      have j := join_len ws'
      refine ⟨?_, q _ H' s1 h1 (by omega) ?_⟩
      · have e : wt ws' = (ws'.map (·.length)).sum + ws'.length := rfl
        have : (" " : Str).length = 1 := rfl
        rw [this]
        omega
      · rw [join_cnt no]
        unfold cnt
        omega
    have lws : ws.length ≤ 30000 := by omega
    have to_ : ∀ (vs : List Str) (m : Nat), cutV (vs.map V.str) none (some ((m : Nat) : Int)) = (vs.take m).map V.str := fun vs m => by rw [cut_to (by omega), Int.toNat_natCast, List.map_take]
    have from_ : ∀ (vs : List Str) (m : Nat), cutV (vs.map V.str) (some ((m : Nat) : Int)) none = (vs.drop m).map V.str := fun vs m => by rw [cut_from (by omega), Int.toNat_natCast, List.map_drop]
    have hw4 : wy = 3 ∨ wy = 4 ∨ wy = 5 ∨ 5 < wy := by omega
    rcases hw4 with rfl | rfl | rfl | h6
    · refine ⟨_, rfl, rfl, _, rfl, iteB (decide_eq_true rfl) ?_⟩
      refine ⟨_, rfl, _, rfl, _, rfl, W, _, rfl, sql eW8, fun p1 n1 => ?_⟩
      rw [to_]
      have w1 := same_upd (o := .lst ((ws.take k).map V.str)) n1
      refine ⟨_, rfl, _, rfl, _, _, rfl, rfl, ((k + 1 : Nat) : Int), rfl, W, _, rfl, sql (w1 _ _ eW8), fun p2 n2 => ?_⟩
      rw [from_]
      have w2 := same_upd (o := .lst ((ws.drop (k + 1)).map V.str)) n2
      refine ⟨p1, p2, _, _, rfl, rfl, w2 _ _ upd_same, upd_same, by rw [List.length_map, List.length_map, List.length_take, List.length_drop]; exact sz (by omega), fun p3 n3 => ?_⟩
      rw [← List.map_append]
      have w3 := same_upd (o := .lst ((ws.take k ++ ws.drop (k + 1)).map V.str)) n3
      have w123 := (w1.trans w2).trans w3
      refine ⟨_, rfl, rfl, _, rfl, iteB0 (decide_eq_false (by decide)) ?_⟩
      refine ⟨_, rfl, rfl, _, rfl, iteB0 (decide_eq_false (by decide)) ?_⟩
      refine ⟨_, rfl, _, _, rfl, rfl, _, rfl, iteB0 (decide_eq_false (by decide)) ?_⟩
      obtain ⟨f1, f2⟩ := fin (ws.take k ++ ws.drop (k + 1)) _ (sx8.trans (SameX.of w123)) (hR8.same w123) (fun x hx => (List.mem_append.mp hx).elim (fun h => wd.no x (List.mem_of_mem_take h)) fun h => wd.no x (List.mem_of_mem_drop h))
        (by rw [List.length_append, List.length_take, List.length_drop]; omega) (by rw [wt_append]; have := wt_take ws k; have := wt_take ws (k + 1); omega)
      exact ⟨⟨_, rfl⟩, _, rfl, _, _, _, rfl, rfl, .inl (sql upd_same), f1, f2⟩
    · refine ⟨_, rfl, rfl, _, rfl, iteB0 (decide_eq_false (by decide)) ?_⟩
      refine ⟨_, rfl, rfl, _, rfl, iteB (decide_eq_true rfl) ?_⟩
      refine ⟨_, rfl, _, rfl, _, _, rfl, rfl, ((k + 1 : Nat) : Int), rfl, W, _, rfl, sql eW8, fun p1 n1 => ?_⟩
      rw [to_]
      have w1 := same_upd (o := .lst ((ws.take (k + 1)).map V.str)) n1
      refine ⟨_, rfl, _, rfl, _, rfl, W, _, rfl, sql (w1 _ _ eW8), fun p2 n2 => ?_⟩
      rw [from_]
      have w2 := same_upd (o := .lst ((ws.drop k).map V.str)) n2
      refine ⟨p1, p2, _, _, rfl, rfl, w2 _ _ upd_same, upd_same, by rw [List.length_map, List.length_map, List.length_take, List.length_drop]; exact sz (by omega), fun p3 n3 => ?_⟩
      rw [← List.map_append]
      have w3 := same_upd (o := .lst ((ws.take (k + 1) ++ ws.drop k).map V.str)) n3
      have w123 := (w1.trans w2).trans w3
      refine ⟨_, rfl, rfl, _, rfl, iteB0 (decide_eq_false (by decide)) ?_⟩
      refine ⟨_, rfl, _, _, rfl, rfl, _, rfl, iteB0 (decide_eq_false (by decide)) ?_⟩
      obtain ⟨f1, f2⟩ := fin (ws.take (k + 1) ++ ws.drop k) _ (sx8.trans (SameX.of w123)) (hR8.same w123) (fun x hx => (List.mem_append.mp hx).elim (fun h => wd.no x (List.mem_of_mem_take h)) fun h => wd.no x (List.mem_of_mem_drop h))
        (by rw [List.length_append, List.length_take, List.length_drop]; omega) (by rw [wt_append]; have := wt_take ws k; have := wt_take ws (k + 1); omega)
      exact ⟨⟨_, rfl⟩, _, rfl, _, _, _, rfl, rfl, .inl (sql upd_same), f1, f2⟩
    · refine ⟨_, rfl, rfl, _, rfl, iteB0 (decide_eq_false (by decide)) ?_⟩
      refine ⟨_, rfl, rfl, _, rfl, iteB0 (decide_eq_false (by decide)) ?_⟩
      refine ⟨_, rfl, rfl, _, rfl, iteB (decide_eq_true rfl) ?_⟩
      refine ⟨_, rfl, _, rfl, _, rfl, W, _, rfl, sql eW8, fun p1 n1 => ?_⟩
      rw [to_]
      have w1 := same_upd (o := .lst ((ws.take k).map V.str)) n1
      refine ⟨_, rfl, _, rfl, _, _, rfl, rfl, ((k + 1 : Nat) : Int), rfl, W, _, rfl, sql (w1 _ _ eW8), fun p2 n2 => ?_⟩
      rw [from_]
      have w2 := same_upd (o := .lst ((ws.drop (k + 1)).map V.str)) n2
      refine ⟨p1, p2, _, _, rfl, rfl, w2 _ _ upd_same, upd_same, by rw [List.length_map, List.length_map, List.length_take, List.length_drop]; exact sz (by omega), fun p3 n3 => ?_⟩
      rw [← List.map_append]
      have w3 := same_upd (o := .lst ((ws.take k ++ ws.drop (k + 1)).map V.str)) n3
      have w123 := (w1.trans w2).trans w3
      have eR : (upd (upd (upd H8 p1 (.lst ((ws.take k).map V.str))) p2 (.lst ((ws.drop (k + 1)).map V.str))) p3 (.lst ((ws.take k ++ ws.drop (k + 1)).map V.str))) p3 = some (.lst ((ws.take k ++ ws.drop (k + 1)).map V.str)) := upd_same
      have eW9 := w123 _ _ eW8
      have hR9 := hR8.same w123
      have sx9 := sx8.trans (SameX.of w123)
      generalize upd (upd (upd H8 p1 (.lst ((ws.take k).map V.str))) p2 (.lst ((ws.drop (k + 1)).map V.str))) p3 (.lst ((ws.take k ++ ws.drop (k + 1)).map V.str)) = H9 at eR eW9 hR9 sx9 ⊢
      have n3r : p3 ≠ r := fun z => by
        obtain ⟨sc, ns, i, s, h, _⟩ := hR8.same (w1.trans w2)
        rw [z] at n3
        rw [n3] at h
        cases h
      have rno : ∀ x ∈ ws.take k ++ ws.drop (k + 1), (32 : Nat) ∉ tl x := fun x hx => (List.mem_append.mp hx).elim (fun h => wd.no x (List.mem_of_mem_take h)) fun h => wd.no x (List.mem_of_mem_drop h)
      have rl : (ws.take k ++ ws.drop (k + 1)).length = ws.length - 1 := by rw [List.length_append, List.length_take, List.length_drop]; omega
      have rw_ : wt (ws.take k ++ ws.drop (k + 1)) ≤ wt ws := by
        rw [wt_append]
        have h1 := wt_take ws k
        have h2 := wt_take (ws.drop k) 1
        rw [List.drop_drop] at h2
        omega
      generalize ws.take k ++ ws.drop (k + 1) = rs at eR rno rl rw_
      refine ⟨_, rfl, _, rfl, p3, _, rfl, .inl (sql eR), _, _, rfl, rfl, ?_⟩
      refine ⟨r, _, rfl, hR9, by omega, fun j H10 j0 j1 s10 hR10 => ?_⟩
      obtain ⟨j, rfl⟩ : ∃ n : Nat, j = ((n : Nat) : Int) := ⟨j.toNat, by omega⟩
      have eR10 := s10 _ _ n3r eR
      have eW10 := s10 _ _ nWr eW9
      have sx10 := sx9.trans s10
      refine ⟨_, rfl, _, rfl, _, rfl, p3, _, rfl, sql eR10, fun q1 m1 => ?_⟩
      rw [to_]
      have v1 := same_upd (o := .lst ((rs.take j).map V.str)) m1
      obtain ⟨mid, hmid, mno, ml, mw⟩ : ∃ mid : List Str, cutV (ws.map V.str) (some ((k : Nat) : Int)) (some ((k + 1 : Nat) : Int)) = mid.map V.str ∧ (∀ x ∈ mid, (32 : Nat) ∉ tl x) ∧ mid.length ≤ 1 ∧ wt mid ≤ wt ws := by
        refine ⟨(ws.drop k).take 1, ?_, fun x hx => wd.no x (List.mem_of_mem_drop (List.mem_of_mem_take hx)), by rw [List.length_take]; omega, ?_⟩
        · unfold cutV
          rw [HT.sIx_nat, HT.sIx_nat, List.length_map, Nat.min_eq_left (by omega), Nat.min_eq_left (by omega), ← List.map_drop, ← List.map_take]
          congr 2
          omega
        · have h1 := wt_take ws k
          have h2 := wt_take (ws.drop k) 1
          omega
      refine ⟨_, rfl, _, rfl, _, rfl, _, rfl, _, _, rfl, rfl, ((k + 1 : Nat) : Int), rfl, W, _, rfl, sql (v1 _ _ eW10), fun q2 m2 => ?_⟩
      rw [hmid]
      have v2 := same_upd (o := .lst (mid.map V.str)) m2
      have lj : (rs.take j).length ≤ 30000 := by rw [List.length_take]; omega
      refine ⟨q1, q2, _, _, rfl, rfl, v2 _ _ upd_same, upd_same, by rw [List.length_map, List.length_map]; exact sz (by omega), fun q3 m3 => ?_⟩
      rw [← List.map_append]
      have v3 := same_upd (o := .lst ((rs.take j ++ mid).map V.str)) m3
      have v123 := (v1.trans v2).trans v3
      refine ⟨_, rfl, _, rfl, _, rfl, p3, _, rfl, sql (v123 _ _ eR10), fun q4 m4 => ?_⟩
      rw [from_]
      have v4 := same_upd (o := .lst ((rs.drop j).map V.str)) m4
      refine ⟨q3, q4, _, _, rfl, rfl, v4 _ _ upd_same, upd_same, by rw [List.length_map, List.length_map, List.length_append, List.length_drop]; exact sz (by omega), fun q5 m5 => ?_⟩
      rw [← List.map_append]
      have v5 := same_upd (o := .lst ((rs.take j ++ mid ++ rs.drop j).map V.str)) m5
      have v15 := v123.trans (v4.trans v5)
      refine ⟨_, rfl, _, _, rfl, rfl, _, rfl, iteB0 (decide_eq_false (by decide)) ?_⟩
      have htl := wt_take rs j
      obtain ⟨f1, f2⟩ := fin (rs.take j ++ mid ++ rs.drop j) _ (sx10.trans (SameX.of v15)) (hR10.same v15) (fun x hx => (List.mem_append.mp hx).elim (fun h => (List.mem_append.mp h).elim (fun h => rno x (List.mem_of_mem_take h)) (mno x)) fun h => rno x (List.mem_of_mem_drop h))
        (by rw [List.length_append, List.length_append, List.length_take, List.length_drop]; omega) (by rw [wt_append, wt_append]; omega)
      exact ⟨⟨_, rfl⟩, _, rfl, _, _, _, rfl, rfl, .inl (sql upd_same), f1, f2⟩
    · refine ⟨_, rfl, rfl, _, rfl, iteB0 (decide_eq_false fun z => by have := V.int.inj z; omega) ?_⟩
      refine ⟨_, rfl, rfl, _, rfl, iteB0 (decide_eq_false fun z => by have := V.int.inj z; omega) ?_⟩
      refine ⟨_, rfl, rfl, _, rfl, iteB0 (decide_eq_false fun z => by have := V.int.inj z; omega) ?_⟩
      refine ⟨_, rfl, _, _, rfl, rfl, _, rfl, iteB (decide_eq_true h6) ?_⟩
      refine ⟨_, rfl, _, rfl, _, rfl, W, _, rfl, sql eW8, fun p1 n1 => ?_⟩
      rw [to_]
      have w1 := same_upd (o := .lst ((ws.take k).map V.str)) n1
      have n1r := hR8.nr n1
      refine ⟨_, rfl, _, rfl, ?_⟩
      refine ⟨r, 14, rfl, hR8.same w1, by decide, fun u H9 u0 u1 s9 hR9 => ?_⟩
      obtain ⟨u, rfl⟩ : ∃ n : Nat, u = ((n : Nat) : Int) := ⟨u.toNat, by omega⟩
      have hu : u < oddS.length := by show u < 14; omega
      have eu : (oddS.map V.str)[u]? = some (.str oddS[u]) := by rw [List.getElem?_map, List.getElem?_eq_getElem hu]; rfl
      obtain ⟨o1, o2⟩ := odd_ok oddS[u] (List.getElem_mem hu)
      generalize oddS[u] = ow at eu o1 o2
      have e1 := s9 _ _ n1r upd_same
      have eW9 := s9 _ _ nWr (w1 _ _ eW8)
      refine ⟨_, _, _, _, rfl, rfl, sql (s9 _ _ nodr (w1 _ _ eod)), atI_nat eu, sz_1, fun l3 n3 => ?_⟩
      have sx9 := (sx8.trans (SameX.of w1)).trans s9
      have v1 := same_upd (o := .lst [V.str ow]) n3
      refine ⟨p1, l3, _, _, rfl, rfl, v1 _ _ e1, upd_same, by rw [List.length_map, List.length_take]; exact sz (by show _ + 1 ≤ 1000000; omega), fun p4 n4 => ?_⟩
      rw [show ((ws.take k).map V.str ++ [V.str ow]) = (ws.take k ++ [ow]).map V.str by rw [List.map_append]; rfl]
      have v2 := same_upd (o := .lst ((ws.take k ++ [ow]).map V.str)) n4
      have v12 := v1.trans v2
      refine ⟨_, rfl, _, rfl, _, _, rfl, rfl, ((k + 1 : Nat) : Int), rfl, W, _, rfl, sql (v12 _ _ eW9), fun p5 n5 => ?_⟩
      rw [from_]
      have v3 := same_upd (o := .lst ((ws.drop (k + 1)).map V.str)) n5
      refine ⟨p4, p5, _, _, rfl, rfl, v3 _ _ upd_same, upd_same, by rw [List.length_map, List.length_map, List.length_append, List.length_take, List.length_drop]; exact sz (by show _ + 1 + _ ≤ 1000000; omega), fun p6 n6 => ?_⟩
      rw [← List.map_append]
      have v4 := same_upd (o := .lst ((ws.take k ++ [ow] ++ ws.drop (k + 1)).map V.str)) n6
      have v14 := v12.trans (v3.trans v4)
      have wo : wt [ow] ≤ 7 := by unfold wt; simp; omega
      have h1 := wt_take ws k
      have h2 := wt_take (ws.drop k) 1
      rw [List.drop_drop] at h2
      obtain ⟨f1, f2⟩ := fin (ws.take k ++ [ow] ++ ws.drop (k + 1)) _ (sx9.trans (SameX.of v14)) (hR9.same v14) (fun x hx => (List.mem_append.mp hx).elim (fun h => (List.mem_append.mp h).elim (fun h => wd.no x (List.mem_of_mem_take h)) (fun h => by rw [List.mem_singleton.mp h]; exact o1)) fun h => wd.no x (List.mem_of_mem_drop h))
        (by rw [List.length_append, List.length_append, List.length_take, List.length_drop]; show _ + 1 + _ ≤ _; omega) (by rw [wt_append, wt_append]; omega)
      exact ⟨⟨_, rfl⟩, _, rfl, _, _, _, rfl, rfl, .inl (sql upd_same), f1, f2⟩
end
end St

namespace St
open PySem PySem.Spec PyProof.Rows L2
abbrev s__law_alike : Stmt := topS 19
abbrev N__law_alike : List Str := ["_law_found", "_law_due_here", "_law_k"]
abbrev p__law_alike : List Str := ["_law_found", "_law_due_here"]
theorem sc__law_alike : FnScope N__law_alike p__law_alike (defScope s__law_alike) := ⟨rfl, rfl, rfl, by decide +kernel, rfl, by decide +kernel, by decide +kernel⟩
section
variable {P : Program} {w : World} {K : PySem.W.Frag} {mg : Str → Option Value} {base : Heap} {f : Addr} {fd : FuncData}
theorem ok__law_alike (T : Nms mg) (D__law_alike : Df K mg "_law_alike" s__law_alike p__law_alike f fd) : ∀ n : Nat, FnOk P w K mg base CX0 n f fd p__law_alike (spAlike K n)
  | 0 => fn_zero fun vs H Q E ⟨v1, v2, d, _, _, _, h, _⟩ => h
  | n + 1 => by
    have G__law_alike := ok__law_alike T D__law_alike n
    refine D__law_alike.F.ok sc__law_alike (fun vs H Q E h => ?_) (fun cdv A outer s H vs Q E hr h => ?_)
    · obtain ⟨r, m, wi, rfl, _⟩ := h
      rfl
    obtain ⟨v1, v2, d, rfl, h1, h2, hd, q⟩ := h
    refine ⟨_, (pss_cons (ps_if (PW.pt (pw_or (pt_val (pe_callB call_isi (by rfl) T.n_isinstance (by decide +kernel) (pa_cons (pv 1) (pa_cons (pe_bltn (v := .ty "tuple") (u := .type "tuple") (by rfl) T.n_tuple (by decide +kernel) rfl) pa_nil)))) (pw_or1 (pt_val (pe_callB call_isi (by rfl) T.n_isinstance (by decide +kernel) (pa_cons (pv 1) (pa_cons (pe_bltn (v := .ty "list") (u := .type "list") (by rfl) T.n_list (by decide +kernel) rfl) pa_nil)))))))
    (pss_cons (ps_if (PW.pt (pw_or (pt_cmpR op_ne (pe_callB call_isi (by rfl) T.n_isinstance (by decide +kernel) (pa_cons (pv 0) (pa_cons (pe_bltn (v := .ty "tuple") (u := .type "tuple") (by rfl) T.n_tuple (by decide +kernel) rfl) pa_nil))) (pe_callB call_isi (by rfl) T.n_isinstance (by decide +kernel) (pa_cons (pv 1) (pa_cons (pe_bltn (v := .ty "tuple") (u := .type "tuple") (by rfl) T.n_tuple (by decide +kernel) rfl) pa_nil))) (nomark _)) (pw_or1 (pt_not (pt_val (pe_callB call_isiT (by rfl) T.n_isinstance (by decide +kernel) (pa_cons (pv 0) (pa_cons (pe_tup (pa_cons (pe_bltn (v := .ty "tuple") (u := .type "tuple") (by rfl) T.n_tuple (by decide +kernel) rfl) (pa_cons (pe_bltn (v := .ty "list") (u := .type "list") (by rfl) T.n_list (by decide +kernel) rfl) pa_nil))) pa_nil))))))))
      (pss_one (ps_ret pe_bl))
      (pss_nil))
    (pss_cons (ps_if (pt_cmpR op_ne (pe_callB call_len_seq (by rfl) T.n_len (by decide +kernel) (pa_cons (pv 0) pa_nil)) (pe_callB call_len_seq (by rfl) T.n_len (by decide +kernel) (pa_cons (pv 1) pa_nil)) (nomark _))
      (pss_one (ps_ret pe_bl))
      (pss_nil))
    (pss_one (ps_ret (pe_cmpR (op_eqD hr.units) (pe_lc (own := [("_law_k", 2)]) (g := gName 2) rfl sc__law_alike.nd (pi_range1 rfl T.n_range (pa_cons (pe_callB call_len_seq (by rfl) T.n_len (by decide +kernel) (pa_cons (pv 1) pa_nil)) pa_nil)) (blkOk_by (own := [("_law_k", 2)]) (N := N__law_alike) (sc := defScope s__law_alike) (by decide +kernel)) (fun _ _ _ _ _ => pg_name (i := 2) sc__law_alike.nd rfl (Or.inl rfl)) (fun _ _ _ _ _ => pts_one (pt_not (pt_val (pe_call G__law_alike (hr.mono (by first | decide | omega)) (by rfl) D__law_alike.m D__law_alike.F.kp D__law_alike.b .nil pass0 (pa_cons (pe_ix (ix_seqK (K := K)) (pv 0) (pv 2) (fun _ _ => rfl)) (pa_cons (pe_ix (ix_seqK (K := K)) (pv 1) (pv 2) (fun _ _ => rfl)) pa_nil)))))) (fun _ _ _ _ _ => (pv 2))) (pe_lst pa_nil) (nomark _))))))
    (pss_nil))
  (pss_cons (ps_if (PW.pt (pw_or (pt_cmpR op_isN (pv 1) pe_non (nomark _)) (pw_or1 (pt_cmpR op_isN (pv 0) pe_non (nomark _)))))
    (pss_one (ps_ret (pe_and (pe_cmpR op_isN (pv 1) pe_non (nomark _)) (pe_one (pe_cmpR op_isN (pv 0) pe_non (nomark _))))))
    (pss_nil))
  (pss_cons (ps_if (PW.pt (pw_or (pt_val (pe_callB call_isi (by rfl) T.n_isinstance (by decide +kernel) (pa_cons (pv 1) (pa_cons (pe_bltn (v := .ty "bool") (u := .type "bool") (by rfl) T.n_bool (by decide +kernel) rfl) pa_nil)))) (pw_or1 (pt_val (pe_callB call_isi (by rfl) T.n_isinstance (by decide +kernel) (pa_cons (pv 0) (pa_cons (pe_bltn (v := .ty "bool") (u := .type "bool") (by rfl) T.n_bool (by decide +kernel) rfl) pa_nil)))))))
    (pss_one (ps_ret (pe_and (pe_callB call_isi (by rfl) T.n_isinstance (by decide +kernel) (pa_cons (pv 1) (pa_cons (pe_bltn (v := .ty "bool") (u := .type "bool") (by rfl) T.n_bool (by decide +kernel) rfl) pa_nil))) (pe_and (pe_callB call_isi (by rfl) T.n_isinstance (by decide +kernel) (pa_cons (pv 0) (pa_cons (pe_bltn (v := .ty "bool") (u := .type "bool") (by rfl) T.n_bool (by decide +kernel) rfl) pa_nil))) (pe_one (pe_cmpR op_eq (pv 0) (pv 1) (nomark _)))))))
    (pss_nil))
  (pss_cons (ps_if (pt_val (pe_callB call_isi (by rfl) T.n_isinstance (by decide +kernel) (pa_cons (pv 1) (pa_cons (pe_bltn (v := .ty "str") (u := .type "str") (by rfl) T.n_str (by decide +kernel) rfl) pa_nil))))
    (pss_one (ps_ret (pe_and (pe_callB call_isi (by rfl) T.n_isinstance (by decide +kernel) (pa_cons (pv 0) (pa_cons (pe_bltn (v := .ty "str") (u := .type "str") (by rfl) T.n_str (by decide +kernel) rfl) pa_nil))) (pe_one (pe_cmpR op_eq (pv 0) (pv 1) (nomark _))))))
    (pss_nil))
  (pss_one (ps_ret (pe_and (pe_callB call_isi (by rfl) T.n_isinstance (by decide +kernel) (pa_cons (pv 0) (pa_cons (pe_bltn (v := .ty "int") (u := .type "int") (by rfl) T.n_int (by decide +kernel) rfl) pa_nil))) (pe_one (pe_cmpR op_eq (pv 0) (pv 1) (nomark _)))))))))), ?_⟩
    cases d with
    | none =>
      cases h1; cases h2
      have t2 : TyX K H .non (.type "NoneType") := .base .non
      and_intros
      exact q _ (Same.refl _)
    | bool b =>
      cases h1; cases h2
      have t2 : TyX K H (.bl b) (.type "bool") := .base (.bl b)
      and_intros
      rw [decide_eq_true rfl]
      exact q _ (Same.refl _)
    | int b =>
      cases h1; cases h2
      have t2 : TyX K H (.int b) (.type "int") := .base (.int b)
      and_intros
      rw [decide_eq_true rfl]
      exact q _ (Same.refl _)
    | str b =>
      cases h1; cases h2
      have t2 : TyX K H (.str b) (.type "str") := .base (.str b)
      and_intros
      rw [decide_eq_true rfl]
      exact q _ (Same.refl _)
    | dict _ => cases h1
    | list ds =>
      cases h1 with
      | @lst a1 xs1 _ l1 al1 =>
      cases h2 with
      | @lst a2 xs2 _ l2 al2 =>
      have t1 : TyX K H (.ref a1) (.type "list") := tyx_L l1
      have t2 : TyX K H (.ref a2) (.type "list") := tyx_L l2
      and_intros
      intro T nT
      have e1 := dlen al1
      have e2 := dlen al2
      have hlen : ds.length ≤ 100000 := hd.1
      have l1' := same_l (same_upd (o := .tup [.ty "tuple", .ty "list"]) nT) l1
      have l2' := same_l (same_upd (o := .tup [.ty "tuple", .ty "list"]) nT) l2
      have sT : Same H (upd H T (.tup [.ty "tuple", .ty "list"])) := same_upd nT
      refine ⟨_, _, _, _, _, true, rfl, upd_same, .cons (.ty _) (.cons (.ty _) .nil), tyx_L l1', tup_list (.inr rfl), ?_⟩
      generalize upd H T (.tup [.ty "tuple", .ty "list"]) = H1 at l1' l2' sT ⊢
      and_intros
      refine iteB0 (by rw [e1, e2, decide_eq_true rfl]; rfl) ?_
      and_intros
      intro D nD
      refine lc_range (lo := 0) (n := (((xs2.length : Nat) : Int)).toNat) (fun i H' => Same H1 H' ∧ H' D = some (.lst [])) ⟨same_upd nD, upd_same⟩ (fun i H' hi h => ?_) (fun H' h => ?_)
      · have hi' : i < ds.length := by omega
        obtain ⟨x1, g1, p1⟩ := dat al1 (List.getElem?_eq_getElem hi')
        obtain ⟨x2, g2, p2⟩ := dat al2 (List.getElem?_eq_getElem hi')
        have z : ((0 : Int) + (i : Int)) = ((i : Nat) : Int) := by omega
        rw [z]
        and_intros
        refine .inl ⟨_, _, _, _, rfl, rfl, same_l h.1 l1', atI_nat g1, ?_⟩
        and_intros
        refine .inl ⟨_, _, _, _, rfl, rfl, same_l h.1 l2', atI_nat g2, ?_⟩
        have sH : Same H H' := sT.trans h.1
        refine ⟨x1, x2, ds[i], rfl, dsame p1 sH, dsame p2 sH, hd.2 _ (List.getElem_mem hi'), fun H2 s2 => ?_⟩
        and_intros
        exact ⟨h.1.trans s2, s2 _ _ h.2⟩
      · and_intros
        intro L nL
        refine ⟨.list [], .list [], .lst (sql (same_upd nL _ _ h.2)) .nil, .lst (sql upd_same) .nil, rfl, rfl, ?_⟩
        exact q _ ((sT.trans h.1).trans (same_upd nL))
    | tuple ds =>
      cases h1 with
      | @tup a1 xs1 _ l1 al1 =>
      cases h2 with
      | @tup a2 xs2 _ l2 al2 =>
      have t1 : TyX K H (.ref a1) (.type "tuple") := tyx_T l1
      have t2 : TyX K H (.ref a2) (.type "tuple") := tyx_T l2
      and_intros
      intro T nT
      have e1 := dlen al1
      have e2 := dlen al2
      have hlen : ds.length ≤ 100000 := hd.1
      have l1' := same_t (same_upd (o := .tup [.ty "tuple", .ty "list"]) nT) l1
      have l2' := same_t (same_upd (o := .tup [.ty "tuple", .ty "list"]) nT) l2
      have sT : Same H (upd H T (.tup [.ty "tuple", .ty "list"])) := same_upd nT
      refine ⟨_, _, _, _, _, true, rfl, upd_same, .cons (.ty _) (.cons (.ty _) .nil), tyx_T l1', tup_list (.inl rfl), ?_⟩
      generalize upd H T (.tup [.ty "tuple", .ty "list"]) = H1 at l1' l2' sT ⊢
      and_intros
      refine iteB0 (by rw [e1, e2, decide_eq_true rfl]; rfl) ?_
      and_intros
      intro D nD
      refine lc_range (lo := 0) (n := (((xs2.length : Nat) : Int)).toNat) (fun i H' => Same H1 H' ∧ H' D = some (.lst [])) ⟨same_upd nD, upd_same⟩ (fun i H' hi h => ?_) (fun H' h => ?_)
      · have hi' : i < ds.length := by omega
        obtain ⟨x1, g1, p1⟩ := dat al1 (List.getElem?_eq_getElem hi')
        obtain ⟨x2, g2, p2⟩ := dat al2 (List.getElem?_eq_getElem hi')
        have z : ((0 : Int) + (i : Int)) = ((i : Nat) : Int) := by omega
        rw [z]
        and_intros
        refine .inr <| .inl ⟨_, _, _, _, rfl, rfl, same_t h.1 l1', atI_nat g1, ?_⟩
        and_intros
        refine .inr <| .inl ⟨_, _, _, _, rfl, rfl, same_t h.1 l2', atI_nat g2, ?_⟩
        have sH : Same H H' := sT.trans h.1
        refine ⟨x1, x2, ds[i], rfl, dsame p1 sH, dsame p2 sH, hd.2 _ (List.getElem_mem hi'), fun H2 s2 => ?_⟩
        and_intros
        exact ⟨h.1.trans s2, s2 _ _ h.2⟩
      · and_intros
        intro L nL
        refine ⟨.list [], .list [], .lst (sql (same_upd nL _ _ h.2)) .nil, .lst (sql upd_same) .nil, rfl, rfl, ?_⟩
        exact q _ ((sT.trans h.1).trans (same_upd nL))
end
end St

namespace St
open PySem PySem.Spec PyProof.Rows L2
abbrev s__law_guesser : Stmt := topS 20
abbrev N__law_guesser : List Str := ["_law_row", "_law_within", "_law_way", "_law_one", "_law_sorts"]
abbrev p__law_guesser : List Str := ["_law_row", "_law_within"]
theorem sc__law_guesser : FnScope N__law_guesser p__law_guesser (defScope s__law_guesser) := ⟨rfl, rfl, rfl, by decide +kernel, rfl, by decide +kernel, by decide +kernel⟩
section
variable {P : Program} {w : World} {K : PySem.W.Frag} {mg : Str → Option Value} {base : Heap} {f fT : Addr} {fd fdT : FuncData}
theorem ok__law_guesser (T : Nms mg) (D__law_taken : Df K mg "_law_taken" s__law_taken p__law_taken fT fdT) (D__law_guesser : Df K mg "_law_guesser" s__law_guesser p__law_guesser f fd) : ∀ n : Nat, FnOk P w K mg base CX0 (n + 1) f fd p__law_guesser (spGuesser K n)
  | 0 => fn_zero fun vs H Q E ⟨r, w, _, h, _⟩ => absurd h (Nat.not_lt_zero _)
  | n + 1 => by
    have G__law_guesser := ok__law_guesser T D__law_taken D__law_guesser n
    have G__law_taken : FnOk P w K mg base CX0 1 fT fdT p__law_taken (spTaken K) := ok__law_taken D__law_taken.F T
    refine D__law_guesser.F.ok sc__law_guesser (fun vs H Q E h => ?_) (fun cdv A outer s H vs Q E hr h => ?_)
    · obtain ⟨r, m, rfl, _⟩ := h
      rfl
    obtain ⟨r, m, rfl, hm, hR, q⟩ := h
    refine ⟨_, (pss_cons (ps_set (i := 2) sc__law_guesser.nd rfl (Or.inl rfl) (pe_call G__law_taken (hr.mono (by first | decide | omega)) (by rfl) D__law_taken.m D__law_taken.F.kp D__law_taken.b .nil pass0 (pa_cons (pv 0) (pa_cons (pe_ix ix_list (pe_lst (pa_cons pe_int (pa_cons pe_int pa_nil))) (pe_callTy call_int1 (by rfl) T.n_int (by decide +kernel) (pa_cons (pe_cmpR op_gt (pv 1) pe_int (nomark _)) pa_nil)) (fun _ _ => rfl)) pa_nil))))
  (pss_cons (ps_if (pt_cmpR op_gt (pv 2) pe_int (nomark _))
    (pss_cons (ps_set (i := 3) sc__law_guesser.nd rfl (Or.inl rfl) (pe_call G__law_guesser (hr.mono (by first | decide | omega)) (by rfl) D__law_guesser.m D__law_guesser.F.kp D__law_guesser.b .nil pass0 (pa_cons (pv 0) (pa_cons (pe_op op_sub (pv 1) pe_int) pa_nil))))
    (pss_one (ps_ret (pe_tup (pa_cons pe_str (pa_cons (pv 3) (pa_cons (pe_call G__law_guesser (hr.mono (by first | decide | omega)) (by rfl) D__law_guesser.m D__law_guesser.F.kp D__law_guesser.b .nil pass0 (pa_cons (pv 0) (pa_cons (pe_op op_sub (pv 1) pe_int) pa_nil))) pa_nil)))))))
    (pss_nil))
  (pss_cons (ps_set (i := 4) sc__law_guesser.nd rfl (Or.inl rfl) (pe_lst (pa_cons (pe_tup (pa_cons pe_str pa_nil)) (pa_cons (pe_tup (pa_cons pe_str (pa_cons (pe_op op_add pe_int (pe_call G__law_taken (hr.mono (by first | decide | omega)) (by rfl) D__law_taken.m D__law_taken.F.kp D__law_taken.b .nil pass0 (pa_cons (pv 0) (pa_cons pe_int pa_nil)))) pa_nil))) (pa_cons (pe_tup (pa_cons pe_str (pa_cons (pe_op op_add pe_int (pe_call G__law_taken (hr.mono (by first | decide | omega)) (by rfl) D__law_taken.m D__law_taken.F.kp D__law_taken.b .nil pass0 (pa_cons (pv 0) (pa_cons pe_int pa_nil)))) pa_nil))) pa_nil)))))
  (pss_cons (ps_set (i := 4) sc__law_guesser.nd rfl (Or.inl rfl) (pe_op op_cat (pv 4) (pe_lst (pa_cons (pe_tup (pa_cons pe_str (pa_cons (pe_op op_add pe_int (pe_call G__law_taken (hr.mono (by first | decide | omega)) (by rfl) D__law_taken.m D__law_taken.F.kp D__law_taken.b .nil pass0 (pa_cons (pv 0) (pa_cons pe_int pa_nil)))) pa_nil))) (pa_cons (pe_tup (pa_cons pe_str (pa_cons pe_int pa_nil))) (pa_cons (pe_tup (pa_cons pe_str (pa_cons pe_int pa_nil))) pa_nil))))))
  (pss_one (ps_ret (pe_ix ix_list (pv 4) (pv 2) (fun _ _ => rfl)))))))), ?_⟩
    -- way = taken(row, [6, 8][int(within > 0)])
    and_intros
    intro l nl
    and_intros
    refine Or.inr ⟨_, rfl, ?_⟩
    have hl : SqL K (upd H l (.lst [.int 6, .int 8])) l [.int 6, .int 8] := sql upd_same
    have hix : atI [V.int 6, V.int 8] (if decide ((0 : Int) < (m : Int)) = true then 1 else 0) = some (.int (if 0 < m then 8 else 6)) := by
      by_cases z : 0 < m
      · rw [decide_eq_true (show (0 : Int) < (m : Int) by omega), if_pos rfl, if_pos z]; rfl
      · rw [decide_eq_false (show ¬ (0 : Int) < (m : Int) by omega), if_neg Bool.false_ne_true, if_neg z]; rfl
    refine ⟨_, _, _, _, rfl, rfl, hl, hix, ?_⟩
    refine ⟨r, _, rfl, hR.same (by ac_rfl), by split <;> omega, fun way H1 w0 w1 s1 hR1 => ?_⟩
    and_intros
    refine ite2 (fun c => ?_) (fun c => ?_)
    · have c' : (5 : Int) < way := of_decide_eq_true c
      obtain ⟨k, rfl⟩ : ∃ k, m = k + 1 := by
        refine ⟨m - 1, ?_⟩
        split at w1 <;> omega
      have ek : ([V.ref r, V.int (((k + 1 : Nat) : Int) - 1)] : List V) = [V.ref r, V.int (k : Int)] := congrArg (fun z : Int => [V.ref r, V.int z]) (by omega)
      and_intros
      refine ⟨r, k, ek, by omega, hR1, fun g1 v1 H2 s2 hR2 h1 g1' => ?_⟩
      and_intros
      refine ⟨r, k, ek, by omega, hR2, fun g2 v2 H3 s3 hR3 h2 g2' => ?_⟩
      and_intros
      intro p np
      refine q (.both g1 g2) _ _ (by ac_rfl) (hR3.same (by ac_rfl)) ⟨p, v1, v2, rfl, sqt upd_same, (h1.sameX s3 hR2.at_).same (by ac_rfl), h2.same (by ac_rfl)⟩ ?_
      show (good k g1 && good k g2) = true
      rw [g1', g2']
      rfl
    · have c' : ¬ (5 : Int) < way := of_decide_eq_false (Bool.eq_false_iff.mpr c)
      -- sorts = [("none",), ("next", 1 + ..), ("stride", 1 + ..)]
      and_intros
      intro p1 np1
      and_intros
      refine ⟨r, _, rfl, hR1.same (by ac_rfl), by decide, fun x2 H2 a2 b2 s2 hR2 => ?_⟩
      and_intros
      intro p2 np2
      and_intros
      refine ⟨r, _, rfl, hR2.same (by ac_rfl), by decide, fun x3 H3 a3 b3 s3 hR3 => ?_⟩
      and_intros
      intro p3 np3
      and_intros
      intro l1 nl1
      and_intros
      refine ⟨r, _, rfl, hR3.same (by ac_rfl), by decide, fun x4 H4 a4 b4 s4 hR4 => ?_⟩
      and_intros
      intro p4 np4
      and_intros
      intro p5 np5
      and_intros
      intro p6 np6
      and_intros
      intro l2 nl2
      have l1r : l1 ≠ r := (hR3.same (same_upd np3)).nr nl1
      have p1r : p1 ≠ r := hR1.nr np1
      have p2r : p2 ≠ r := hR2.nr np2
      have p3r : p3 ≠ r := hR3.nr np3
      refine ⟨_, _, _, _, rfl, rfl, (by infer_instance), (by infer_instance), (by exact (show 3 + 3 ≤ sizeLine by decide)), ?_⟩
      intro l3 nl3
      and_intros
      have w6 : way = 0 ∨ way = 1 ∨ way = 2 ∨ way = 3 ∨ way = 4 ∨ way = 5 := by omega
      rcases w6 with rfl | rfl | rfl | rfl | rfl | rfl
      · refine ⟨_, _, _, _, rfl, rfl, (by infer_instance), rfl, ?_⟩
        exact q (.leaf "none" []) _ _ (by ac_rfl) (hR4.same (by ac_rfl)) ⟨p1, rfl, (by infer_instance)⟩ (good_none m)
      · refine ⟨_, _, _, _, rfl, rfl, (by infer_instance), rfl, ?_⟩
        exact q (.leaf "next" [1 + x2]) _ _ (by ac_rfl) (hR4.same (by ac_rfl)) ⟨p2, rfl, (by infer_instance)⟩ (good_next (by omega) (by omega))
      · refine ⟨_, _, _, _, rfl, rfl, (by infer_instance), rfl, ?_⟩
        exact q (.leaf "stride" [1 + x3]) _ _ (by ac_rfl) (hR4.same (by ac_rfl)) ⟨p3, rfl, (by infer_instance)⟩ (good_stride (by omega) (by omega))
      · refine ⟨_, _, _, _, rfl, rfl, (by infer_instance), rfl, ?_⟩
        exact q (.leaf "pairs" [1 + x4]) _ _ (by ac_rfl) (hR4.same (by ac_rfl)) ⟨p4, rfl, (by infer_instance)⟩ (good_pairs (by omega) (by omega))
      · refine ⟨_, _, _, _, rfl, rfl, (by infer_instance), rfl, ?_⟩
        exact q (.leaf "stride" [1]) _ _ (by ac_rfl) (hR4.same (by ac_rfl)) ⟨p5, rfl, (by infer_instance)⟩ (good_stride (by omega) (by omega))
      · refine ⟨_, _, _, _, rfl, rfl, (by infer_instance), rfl, ?_⟩
        exact q (.leaf "next" [1]) _ _ (by ac_rfl) (hR4.same (by ac_rfl)) ⟨p6, rfl, (by infer_instance)⟩ (good_next (by omega) (by omega))
end
end St

namespace St
open PySem PySem.Spec PyProof.Rows L2 TL
theorem natAbs_log {n : Int} (h : n = 1 ∨ n = 2 ∨ n = 3) : n.natAbs.log2 < 1920 := by
  rcases h with rfl | rfl | rfl <;> decide
end St

namespace St
open PySem PySem.Spec PyProof.Rows L2 TL
abbrev s__law_text : Stmt := topS 21
abbrev N__law_text : List Str := ["_law_guesser_here", "_law_part_here"]
abbrev p__law_text : List Str := ["_law_guesser_here"]
theorem sc__law_text : FnScope N__law_text p__law_text (defScope s__law_text) := ⟨rfl, rfl, rfl, by decide +kernel, rfl, by decide +kernel, by decide +kernel⟩
section
variable {P : Program} {w : World} {K : PySem.W.Frag} {mg : Str → Option Value} {base : Heap} {f : Addr} {fd : FuncData}
def spText (K : PySem.W.Frag) (n : Nat) : Sp := fun vs H Q _ => ∃ (v : V) (g : G) (k : Nat), vs = [v] ∧ IsG K H g v ∧ good k g = true ∧ k < n ∧ k ≤ 3 ∧ ∀ H', Same H H' → Q (.str (textG g)) H'
theorem ok__law_text (T : Nms mg) (D__law_text : Df K mg "_law_text" s__law_text p__law_text f fd) : ∀ n : Nat, FnOk P w K mg base CX0 n f fd p__law_text (spText K n)
  | 0 => fn_zero fun vs H Q E ⟨v, g, k, _, _, _, h, _⟩ => by omega
  | n + 1 => by
    have G__law_text := ok__law_text T D__law_text n
    refine D__law_text.F.ok sc__law_text (fun vs H Q E h => ?_) (fun cdv A outer s H vs Q E hr h => ?_)
    · obtain ⟨r, m, wi, rfl, _⟩ := h
      rfl
    obtain ⟨v, g, k, rfl, hG, hg, hk, hk3, q⟩ := h
    refine ⟨_, (pss_cons (ps_if (pt_cmpR op_eq (pe_ix ix_tup (pv 0) pe_int (fun _ _ => rfl)) pe_str (nomark _))
    (pss_one (ps_ret (pe_op op_add_str (pe_op op_add_str (pe_op op_add_str pe_str (pe_call G__law_text (hr.mono (by first | decide | omega)) (by rfl) D__law_text.m D__law_text.F.kp D__law_text.b .nil pass0 (pa_cons (pe_ix ix_tup (pv 0) pe_int (fun _ _ => rfl)) pa_nil))) pe_str) (pe_call G__law_text (hr.mono (by first | decide | omega)) (by rfl) D__law_text.m D__law_text.F.kp D__law_text.b .nil pass0 (pa_cons (pe_ix ix_tup (pv 0) pe_int (fun _ _ => rfl)) pa_nil)))))
    (pss_nil))
  (pss_one (ps_ret (pe_join pe_str (pe_lc (own := [("_law_part_here", 1)]) (g := gName 1) rfl sc__law_text.nd (pi_tup (pv 0)) (blkOk_by (own := [("_law_part_here", 1)]) (N := N__law_text) (sc := defScope s__law_text) (by decide +kernel)) (fun _ _ _ _ _ => pg_name (i := 1) sc__law_text.nd rfl (Or.inl rfl)) (fun _ _ _ _ _ => pts_nil) (fun _ _ _ _ _ => (pe_callTy (CallR.or SkE.call_str_str call_str_int) (by rfl) T.n_str (by decide +kernel) (pa_cons (pv 1) pa_nil)))))))), ?_⟩
    cases g with
    | leaf z ns =>
      obtain ⟨p, rfl, hp⟩ := hG
      have hz : z ≠ ("both" : Str) := (isG_good k _ hg hk3).2
      and_intros
      refine iteB0 (decide_eq_false fun x => hz (V.str.inj x)) ?_
      and_intros
      refine ⟨⟨_, rfl⟩, ?_⟩
      and_intros
      refine ⟨⟨_, hp⟩, fun D nD => ?_⟩
      refine lc_tup (xs := .str z :: ns.map V.int) (fun i H' => Same H H' ∧ H' D = some (.lst (((wordsG (.leaf z ns)).take i).map V.str))) ⟨same_upd nD, upd_same⟩ (fun i H' _ h => same_t h.1 hp) (fun i x H' hi h => ?_) (fun H' h => ?_)
      · have hl : (wordsG (.leaf z ns)).length = ns.length + 1 := by
          show (z :: ns.map strN).length = _
          rw [List.length_cons, List.length_map]
        have h4 : ns.length + 1 ≤ 2 := by
          rcases good_leaf hg with ⟨_, rfl⟩ | ⟨m, rfl, _⟩ <;> simp
        have fin : ∀ y : Str, (wordsG (.leaf z ns))[i]? = some y → ∃ acc, H' D = some (.lst acc) ∧ acc.length < sizeLine ∧ (Same H (upd H' D (.lst (acc ++ [.str y]))) ∧ (upd H' D (.lst (acc ++ [.str y]))) D = some (.lst (((wordsG (.leaf z ns)).take (i + 1)).map V.str))) := fun y hy => by
          refine ⟨_, h.2, ?_, same_mut h.1 nD, ?_⟩
          · rw [List.length_map, List.length_take]
            exact szl (by omega)
          · rw [upd_same, List.take_add_one, hy, List.map_append]
            rfl
        and_intros
        cases i with
        | zero =>
          cases Option.some.inj hi
          exact Or.inl ⟨z, rfl, fin z rfl⟩
        | succ i =>
          rw [List.getElem?_cons_succ, List.getElem?_map] at hi
          cases e : ns[i]? with
          | none => rw [e] at hi; cases hi
          | some m =>
            rw [e] at hi
            cases Option.some.inj hi
            have hm : m = 1 ∨ m = 2 ∨ m = 3 := by
              rcases good_leaf hg with ⟨_, rfl⟩ | ⟨m', rfl, hm', _⟩
              · cases e
              · cases i with
                | zero => cases Option.some.inj e; exact hm'
                | succ i => cases e
            refine Or.inr ⟨m, rfl, natAbs_log hm, fin (strN m) ?_⟩
            show (z :: ns.map strN)[i + 1]? = _
            rw [List.getElem?_cons_succ, List.getElem?_map, e]
            rfl
      · have e : (wordsG (.leaf z ns)).take (V.str z :: ns.map V.int).length = wordsG (.leaf z ns) := by
          rw [List.take_of_length_le]
          show (z :: ns.map strN).length ≤ _
          rw [List.length_cons, List.length_cons, List.length_map, List.length_map]
          exact Nat.le_refl _
        rw [e] at h
        refine ⟨_, _, _, rfl, rfl, .inl (sql h.2), ?_, q _ h.1⟩
        have z := wt_words k _ hg
        unfold wt at z
        have e : (" " : Str).length = 1 := rfl
        have w3 : 2 ^ k ≤ 8 := by
          have : k = 0 ∨ k = 1 ∨ k = 2 ∨ k = 3 := by omega
          rcases this with rfl | rfl | rfl | rfl <;> decide
        rw [e]
        omega
    | both a b =>
      cases k with
      | zero => simp [good] at hg
      | succ k =>
      obtain ⟨p, x, y, rfl, hp, ha, hb⟩ := hG
      have h' : (good k a && good k b) = true := hg
      rw [Bool.and_eq_true] at h'
      have w1 := text_len h'.1
      have w2 := text_len h'.2
      have w3 : 2 ^ k ≤ 8 := by
        have : k = 0 ∨ k = 1 ∨ k = 2 := by omega
        rcases this with rfl | rfl | rfl <;> decide
      have e5 : ("both " : Str).length = 5 := rfl
      have e1 : (" " : Str).length = 1 := rfl
      and_intros
      refine ⟨x, a, k, rfl, ha, h'.1, by omega, by omega, fun H1 s1 => ?_⟩
      refine ⟨_, _, rfl, rfl, by rw [e5]; exact sz (by omega), ?_⟩
      refine ⟨_, _, rfl, rfl, by rw [len_app, e5, e1]; exact sz (by omega), ?_⟩
      have hp1 := same_t s1 hp
      and_intros
      refine ⟨y, b, k, rfl, hb.same s1, h'.2, by omega, by omega, fun H2 s2 => ?_⟩
      refine ⟨_, _, rfl, rfl, by rw [len_app, len_app, e5, e1]; exact sz (by omega), ?_⟩
      exact q H2 (s1.trans s2)
    | _ => simp [good] at hg
end
end St

namespace St
open PySem PySem.Spec PyProof.Rows L2 TL
abbrev s_law : Stmt := topS 28
abbrev N_law : List Str := ["_law_script", "_law_row", "_law_odd", "_law_turn", "_law_text_here", "_law_change", "_law_some"]
abbrev p_law : List Str := ["_law_script"]
theorem sc_law : FnScope N_law p_law (defScope s_law) := ⟨rfl, rfl, rfl, by decide +kernel, rfl, by decide +kernel, by decide +kernel⟩
def spLaw (K : PySem.W.Frag) : Sp := fun vs H Q _ => ∃ (a : Addr) (ns : List Int), vs = [.ref a] ∧ Sc K H a (ns.map V.int) ∧ ∀ H', Q (.bl true) H'
def oddA : List Str := ["", " ", "none ", " none", "next", "next 0", "next 4", "stride 3 ", "pairs 3", "both", "both none"]
def oddB : List Str := ["none none", "both none none none", "both both none none", "next 01"]
def oddT : List Str := oddA ++ oddB ++ ([("both both both both none none none none none" : Str)] : List Str)
theorem oddT_ok : ∀ x ∈ oddT, x.length ≤ 100 ∧ cnt x ≤ 20 := by decide +kernel
theorem words_few : ∀ (k : Nat) (g : G), good k g = true → (wordsG g).length + 1 ≤ 3 * 2 ^ k
  | _, .nil, h => by simp [good] at h
  | _, .b1 _, h => by simp [good] at h
  | _, .b3 _ _ _, h => by simp [good] at h
  | 0, .both _ _, h => by simp [good] at h
  | k + 1, .both a b, h => by
    have h' : (good k a && good k b) = true := h
    rw [Bool.and_eq_true] at h'
    have ha := words_few k a h'.1
    have hb := words_few k b h'.2
    show (("both" : Str) :: (wordsG a ++ wordsG b)).length + 1 ≤ _
    rw [List.length_cons, List.length_append, Nat.pow_succ]
    omega
  | k, .leaf w ns, h => by
    have p := pow_ge k
    rcases good_leaf h with ⟨rfl, rfl⟩ | ⟨n, rfl, _, _⟩
    · show 1 + 1 ≤ _; omega
    · show 2 + 1 ≤ _; omega
theorem text_few {g : G} (h : good 3 g = true) : cnt (textG g) ≤ 22 := by
  have h1 := split_count (textG g)
  rw [read_back h] at h1
  have h2 := words_few 3 g h
  unfold cnt
  omega
theorem wordsT_len (t : Str) : (wordsT t).length ≤ cnt t + 1 := by
  unfold wordsT
  split
  · exact Nat.zero_le _
  · exact Nat.le_of_eq (split_count t)
section
variable {P : Program} {w : World} {K : PySem.W.Frag} {mg : Str → Option Value} {base : Heap} {f dS dM fI fN CT CG CA CR CS CW fT fP fR g1 g2 g3 g4 g5 g6 g7 g8 g9 : Addr} {fd fdI fdN fdT fdP fdR gd1 gd2 gd3 gd4 gd5 gd6 gd7 gd8 gd9 : FuncData}
theorem ok_law (T : Nms mg) (B : Tab K w mg dS dM) (hF : ∃ t, mg "FIGURES" = some (.str "0123456789" t)) (k : Kinds K mg CT CG CA CR CS CW) (XI_BadText : ErrI K "place" CT fT) (D_BadText___init__ : Ef K "BadText.__init__" s_BadText___init__ p_BadText___init__ fT fdT)
    (XP_BadGuesser : ErrP K CG) (D_is_guesser : Df K mg "is_guesser" s_is_guesser p_is_guesser fI fdI) (D_need_guesser : Df K mg "need_guesser" s_need_guesser p_need_guesser fN fdN)
    (D_part_at : Df K mg "part_at" s_part_at p_part_at fP fdP) (D_read : Df K mg "read" s_read p_read fR fdR)
    (D__law_taken : Df K mg "_law_taken" s__law_taken p__law_taken g1 gd1) (D__law_alike : Df K mg "_law_alike" s__law_alike p__law_alike g2 gd2) (D__law_guesser : Df K mg "_law_guesser" s__law_guesser p__law_guesser g3 gd3) (D__law_text : Df K mg "_law_text" s__law_text p__law_text g4 gd4)
    (D__law_place : Df K mg "_law_place" s__law_place p__law_place g5 gd5) (D__law_part : Df K mg "_law_part" s__law_part p__law_part g6 gd6) (D__law_is_good : Df K mg "_law_is_good" s__law_is_good p__law_is_good g7 gd7) (D__law_due : Df K mg "_law_due" s__law_due p__law_due g8 gd8)
    {g10 g11 : Addr} {gd10 gd11 : FuncData} (D__law_reading : Df K mg "_law_reading" s__law_reading p__law_reading g10 gd10) (D__law_spoilt : Df K mg "_law_spoilt" s__law_spoilt p__law_spoilt g11 gd11)
    (F : Fun K "law" "law" s_law f fd) : FnOk P w K mg base CX0 42 f fd p_law (spLaw K) := by
  have G__law_taken : FnOk P w K mg base CX0 1 g1 gd1 p__law_taken (spTaken K) := ok__law_taken D__law_taken.F T
  have G__law_guesser : FnOk P w K mg base CX0 5 g3 gd3 p__law_guesser (spGuesser K 4) := ok__law_guesser T D__law_taken D__law_guesser 4
  have G__law_text : FnOk P w K mg base CX0 4 g4 gd4 p__law_text (spText K 4) := ok__law_text T D__law_text 4
  have G__law_alike : FnOk P w K mg base CX0 7 g2 gd2 p__law_alike (spAlike K 7) := ok__law_alike T D__law_alike 7
  have G__law_due : FnOk P w K mg base CX0 40 g8 gd8 p__law_due (spDue K) := ok__law_due T D__law_place D__law_part D__law_is_good D__law_due.F
  have G__law_reading : FnOk P w K mg base CX0 41 g10 gd10 p__law_reading (spRdg K) := ok__law_reading T B hF k XI_BadText D_BadText___init__ XP_BadGuesser D_is_guesser D_need_guesser D_part_at D_read D__law_reading.F
  have G__law_spoilt : FnOk P w K mg base CX0 2 g11 gd11 p__law_spoilt (spSpo K) := ok__law_spoilt T D__law_taken D__law_spoilt.F
  refine F.ok sc_law (fun vs H Q E h => ?_) (fun cdv A outer s H vs Q E hr h => ?_)
  · obtain ⟨a, ns, rfl, _⟩ := h
    rfl
  obtain ⟨a, ns, rfl, hS, q⟩ := h
  refine ⟨_, (pss_cons (ps_set (i := 1) sc_law.nd rfl (Or.inl rfl) (pe_lst (pa_cons (pv 0) (pa_cons pe_int (pa_cons pe_int pa_nil)))))
  (pss_cons (ps_set (i := 2) sc_law.nd rfl (Or.inl rfl) (pe_lst (pa_cons pe_str (pa_cons pe_str (pa_cons pe_str (pa_cons pe_str (pa_cons pe_str (pa_cons pe_str (pa_cons pe_str (pa_cons pe_str (pa_cons pe_str (pa_cons pe_str (pa_cons pe_str pa_nil)))))))))))))
  (pss_cons (ps_set (i := 2) sc_law.nd rfl (Or.inl rfl) (pe_op op_cat (pv 2) (pe_lst (pa_cons pe_str (pa_cons pe_str (pa_cons pe_str (pa_cons pe_str pa_nil)))))))
  (pss_cons (ps_expr (pe_bm PySem.F.plainAttrs_list PySem.F.slot_list_append PySem.F.type_list_append mt_append (pv 2) (pa_cons pe_str pa_nil)))
  (pss_cons (ps_for PassesOwn.never rfl (pi_range1 rfl T.n_range (pa_cons pe_int pa_nil)) (pg_name (i := 3) sc_law.nd rfl (Or.inl rfl))
    (pss_cons (ps_set (i := 4) sc_law.nd rfl (Or.inl rfl) (pe_call G__law_text (hr.mono (by first | decide | omega)) (by rfl) D__law_text.m D__law_text.F.kp D__law_text.b .nil pass0 (pa_cons (pe_call G__law_guesser (hr.mono (by first | decide | omega)) (by rfl) D__law_guesser.m D__law_guesser.F.kp D__law_guesser.b .nil pass0 (pa_cons (pv 1) (pa_cons pe_int pa_nil))) pa_nil)))
    (pss_cons (ps_for PassesOwn.never rfl (pi_range1 rfl T.n_range (pa_cons (pe_call G__law_taken (hr.mono (by first | decide | omega)) (by rfl) D__law_taken.m D__law_taken.F.kp D__law_taken.b .nil pass0 (pa_cons (pv 1) (pa_cons pe_int pa_nil))) pa_nil)) (pg_name (i := 5) sc_law.nd rfl (Or.inl rfl))
      (pss_one (ps_set (i := 4) sc_law.nd rfl (Or.inl rfl) (pe_call G__law_spoilt (hr.mono (by first | decide | omega)) (by rfl) D__law_spoilt.m D__law_spoilt.F.kp D__law_spoilt.b .nil pass0 (pa_cons (pv 1) (pa_cons (pv 4) pa_nil))))))
    (pss_one (ps_for PassesOwn.never rfl (pi_list (pe_lst (pa_cons (pv 4) (pa_cons (pe_ix ix_list (pv 2) (pe_call G__law_taken (hr.mono (by first | decide | omega)) (by rfl) D__law_taken.m D__law_taken.F.kp D__law_taken.b .nil pass0 (pa_cons (pv 1) (pa_cons pe_int pa_nil))) (fun _ _ => rfl)) pa_nil)))) (pg_name (i := 6) sc_law.nd rfl (Or.inl rfl))
      (pss_one (ps_if (pt_not (pt_val (pe_call G__law_alike (hr.mono (by first | decide | omega)) (by rfl) D__law_alike.m D__law_alike.F.kp D__law_alike.b .nil pass0 (pa_cons (pe_call G__law_reading (hr.mono (by first | decide | omega)) (by rfl) D__law_reading.m D__law_reading.F.kp D__law_reading.b .nil pass0 (pa_cons (pv 6) pa_nil)) (pa_cons (pe_call G__law_due (hr.mono (by first | decide | omega)) (by rfl) D__law_due.m D__law_due.F.kp D__law_due.b .nil pass0 (pa_cons (pv 6) pa_nil)) pa_nil)))))
        (pss_one (ps_ret pe_bl))
        (pss_nil))))))))
  (pss_one (ps_ret pe_bl))))))), ?_⟩
  and_intros
  intro r nr
  have hR : Row K (upd H r (.lst [.ref a, .int 0, .int 0])) r := ⟨a, ns, 0, 0, upd_same, hS.imm (Imm.same (same_upd nr)), by omega⟩
  generalize upd H r (.lst [.ref a, .int 0, .int 0]) = H1 at hR ⊢
  refine ⟨by show 11 ≤ sizeLine; decide, fun o1 m1 => ?_⟩
  have w1 := same_upd (o := .lst (oddA.map V.str)) m1
  refine ⟨_, rfl, sz_4, fun o2 m2 => ?_⟩
  have w2 := same_upd (H := upd H1 o1 (.lst (oddA.map V.str))) (o := .lst (oddB.map V.str)) m2
  refine ⟨o1, o2, oddA.map V.str, oddB.map V.str, rfl, rfl, w2 _ _ upd_same, upd_same, by show 11 + 4 ≤ sizeLine; decide, fun o3 m3 => ?_⟩
  have w3 := same_upd (H := upd (upd H1 o1 (.lst (oddA.map V.str))) o2 (.lst (oddB.map V.str))) (o := .lst (oddA.map V.str ++ oddB.map V.str)) m3
  have hR3 : Row K (upd (upd (upd H1 o1 (.lst (oddA.map V.str))) o2 (.lst (oddB.map V.str))) o3 (.lst (oddA.map V.str ++ oddB.map V.str))) r := hR.same ((w1.trans w2).trans w3)
  have n3r : o3 ≠ r := (hR.same (w1.trans w2)).nr m3
  have e3 : (upd (upd (upd H1 o1 (.lst (oddA.map V.str))) o2 (.lst (oddB.map V.str))) o3 (.lst (oddA.map V.str ++ oddB.map V.str))) o3 = some (.lst (oddA.map V.str ++ oddB.map V.str)) := upd_same
  refine ⟨_, rfl, .inl ⟨rfl, _, sql e3⟩, _, _, _, rfl, rfl, e3, by show 15 < sizeLine; decide, ?_⟩
  have hR4 := hR3.upd (o := .lst (oddA.map V.str ++ oddB.map V.str ++ [.str "both both both both none none none none none"])) ⟨_, e3⟩ n3r
  have e4 : (upd (upd (upd (upd H1 o1 (.lst (oddA.map V.str))) o2 (.lst (oddB.map V.str))) o3 (.lst (oddA.map V.str ++ oddB.map V.str))) o3 (.lst (oddA.map V.str ++ oddB.map V.str ++ [.str "both both both both none none none none none"]))) o3 = some (.lst (oddT.map V.str)) := upd_same
  refine ⟨5, rfl, by decide, by decide, ?_⟩
  refine for_range (lo := 0) (n := ((5 : Int)).toNat) (fun i σ H' => ∃ y3 y4 y5 y6, σ = [some (.ref a), some (.ref r), some (.ref o3), y3, y4, y5, y6] ∧ H' o3 = some (.lst (oddT.map V.str)) ∧ Row K H' r)
    ⟨none, none, none, none, rfl, e4, hR4⟩ (fun i σ H' hi h => ?_) (fun σ H' h => ?_)
  · clear hR hR3 hR4 e3 e4 w1 w2 w3 m1 m2 m3
    obtain ⟨y3, y4, y5, y6, rfl, eO, hR⟩ := h
    refine ⟨_, rfl, ?_⟩
    refine ⟨r, 3, rfl, by omega, hR, fun g v H2 s2 hR2 hG hg => ?_⟩
    refine ⟨v, g, 3, rfl, hG, hg, by omega, by omega, fun H3 s3 => ?_⟩
    have hR3 := hR2.same s3
    have eO3 := s3 _ _ (s2 _ _ n3r eO)
    have tl0 := text_len hg
    have tf0 := text_few hg
    refine ⟨_, rfl, ?_⟩
    refine ⟨r, 4, rfl, hR3, by decide, fun x H4 x0 x1 s4 hR4 => ?_⟩
    have eO4 := s4 _ _ n3r eO3
    refine ⟨_, rfl, by omega, by omega, ?_⟩
    refine for_range (lo := 0) (n := x.toNat) (fun j σ H' => ∃ t y5, σ = [some (.ref a), some (.ref r), some (.ref o3), some (.int (0 + ((i : Nat) : Int))), some (.str t), y5, y6] ∧ t.length + 20 ≤ 140 * 2 ^ j ∧ cnt t ≤ 22 + j ∧ H' o3 = some (.lst (oddT.map V.str)) ∧ Row K H' r)
      ⟨textG g, _, rfl, by show _ ≤ 140; omega, tf0, eO4, hR4⟩ (fun j σ H5 hj h => ?_) (fun σ H5 h => ?_)
    · clear hR hR2 hR3 hR4 eO eO3 eO4 s2 s3 s4
      obtain ⟨t, y5, rfl, hl, hc, eO, hR⟩ := h
      have hp : 2 ^ j ≤ 2 ^ 3 := Nat.pow_le_pow_right (by decide) (by omega)
      refine ⟨_, rfl, _, rfl, ?_⟩
      refine ⟨r, t, rfl, hR, by omega, fun t' H6 s6 hR6 hl' hc' => ?_⟩
      exact ⟨t', _, rfl, by rw [Nat.pow_succ]; omega, by omega, s6 _ _ n3r eO, hR6⟩
    · clear hR hR2 hR3 hR4 eO eO3 eO4 s2 s3 s4
      obtain ⟨t, y5, rfl, hl, hc, eO, hR⟩ := h
      have hp : 2 ^ x.toNat ≤ 2 ^ 3 := Nat.pow_le_pow_right (by decide) (by omega)
      refine ⟨_, rfl, _, rfl, _, rfl, ?_⟩
      refine ⟨r, 16, rfl, hR, by decide, fun u H6 u0 u1 s6 hR6 => ?_⟩
      obtain ⟨u, rfl⟩ : ∃ n : Nat, u = ((n : Nat) : Int) := ⟨u.toNat, by omega⟩
      have hu : u < oddT.length := by show u < 16; omega
      have eu : (oddT.map V.str)[u]? = some (.str oddT[u]) := by rw [List.getElem?_map, List.getElem?_eq_getElem hu]; rfl
      obtain ⟨q1, q2⟩ := oddT_ok oddT[u] (List.getElem_mem hu)
      generalize oddT[u] = ot at eu q1 q2
      have eO6 := s6 _ _ n3r eO
      refine ⟨_, _, _, _, rfl, rfl, sql eO6, atI_nat eu, sz_2, fun L nL => ?_⟩
      have w7 := same_upd (o := .lst [V.str t, .str ot]) nL
      have eL : (upd H6 L (.lst [V.str t, .str ot])) L = some (.lst [V.str t, .str ot]) := upd_same
      have hR7 := hR6.same w7
      have eO7 := w7 _ _ eO6
      generalize upd H6 L (.lst [V.str t, .str ot]) = H7 at eL hR7 eO7 ⊢
      refine ⟨L, rfl, ⟨_, sql eL⟩, ?_⟩
      refine for_list (xs := [V.str t, .str ot]) (fun m σ H' => ∃ y6, σ = [some (.ref a), some (.ref r), some (.ref o3), some (.int (0 + ((i : Nat) : Int))), some (.str t), y5, y6] ∧ Same H7 H') ⟨_, rfl, Same.refl _⟩ (fun m σ H' _ h => ?_) (fun m y σ H8 hm h => ?_) (fun σ H8 h => ?_)
      · obtain ⟨y6, rfl, s8⟩ := h
        exact sql (s8 _ _ eL)
      · obtain ⟨y6, rfl, s8⟩ := h
        obtain ⟨z, rfl, z1, z2⟩ : ∃ z : Str, y = .str z ∧ z.length ≤ 100000 ∧ (wordsT z).length ≤ 30 := by
          match m, hm with
          | 0, hm => cases Option.some.inj hm; exact ⟨t, rfl, by omega, by have := wordsT_len t; omega⟩
          | 1, hm => cases Option.some.inj hm; exact ⟨ot, rfl, by omega, by have := wordsT_len ot; omega⟩
        refine ⟨_, rfl, z, rfl, z1, z2, fun p1 H9 s9 d1 => ?_⟩
        refine ⟨_, rfl, z, rfl, z1, z2, fun p2 H10 s10 d2 => ?_⟩
        refine ⟨_, _, dRd (readP z), rfl, dsame d1 s10, d2, read_dep z, fun H11 s11 => ?_⟩
        refine ⟨_, rfl, iteB0 (b := !true) rfl ?_⟩
        exact ⟨_, rfl, ((s8.trans s9).trans s10).trans s11⟩
      · obtain ⟨y6, rfl, s8⟩ := h
        exact ⟨_, _, _, _, rfl, s8 _ _ eO7, hR7.same s8⟩
  · obtain ⟨y3, y4, y5, y6, rfl, _⟩ := h
    exact q _
end
end St

namespace St
open PySem PySem.Spec PyProof.Rows L2
theorem all_mk {l : PySem.W.OpenLaw} {w : World} {K : PySem.W.Frag} {h : Heap} {mg : Str → Option Value} {fa f0 f1 f2 f3 f4 f5 f6 f7 f8 f9 f10 f11 f12 f13 f14 d0 d1 : Addr} (X : K.In h) (G : h.Ns mainGlobals mg) (hfa : mg "law" = some (.ref fa))
    {od0 an0 od1 an1 od2 an2 od3 an3 od4 an4 od5 an5 od6 an6 od7 an7 od8 an8 od9 an9 od10 an10 od11 an11 od12 an12 od13 an13 od14 an14 : Option Addr} {sl0 sl1 sl2 sl3 sl4 sl5 sl6 sl7 sl8 sl9 sl10 sl11 sl12 sl13 sl14 : Array (Option Value)} {oc0 kV0 dc0 pm0 cd0 ct0 oc1 kV1 dc1 pm1 cd1 ct1 oc2 kV2 dc2 pm2 cd2 ct2 oc3 kV3 dc3 pm3 cd3 ct3 oc4 kV4 dc4 pm4 cd4 ct4 oc5 kV5 dc5 pm5 cd5 ct5 oc6 kV6 dc6 pm6 cd6 ct6 oc7 kV7 dc7 pm7 cd7 ct7 oc8 kV8 dc8 pm8 cd8 ct8 oc9 kV9 dc9 pm9 cd9 ct9 oc10 kV10 dc10 pm10 cd10 ct10 oc11 kV11 dc11 pm11 cd11 ct11 oc12 kV12 dc12 pm12 cd12 ct12 oc13 kV13 dc13 pm13 cd13 ct13 oc14 kV14 dc14 pm14 cd14 ct14 : Value} {es0 es1 : Array DictEntry} {en0 en1 : Nat} {ti0 ts0 : Tok}
    {E0 E1 E2 E3 E4 E5 fE1 : Addr}
    {nmE1 qE1 : Str} {NE1 : Addr} {bsE1 bmE1 : List Value} {snE1 : List Str} {suE1 : List Value} {abE1 : Bool} {coE1 : Option Bool} {ddE1 : Option Addr} {m0E1 m1E1 m2E1 m3E1 m5E1 : Option Value} {odE1 anE1 : Option Addr} {slE1 : Array (Option Value)} {ocE1 kVE1 dcE1 pmE1 cdE1 ctE1 : Value}
    (a0 : PySem.W.nsIn K mainGlobals "is_guesser" = some (some (.ref f0))) (l0 : K.lookup f0 = some ⟨oc0, od0, .func (PySem.W.fnOf "is_guesser" "is_guesser" (defArgs s_is_guesser) (defBody s_is_guesser) (defScope s_is_guesser) .none kV0 dc0 pm0 an0 cd0 ct0), sl0⟩) (c0 : PySem.W.codeIn K cd0 "is_guesser" = true) (k0 : PySem.W.keepIn K (.ref f0) = true)
    (a1 : PySem.W.nsIn K mainGlobals "need_guesser" = some (some (.ref f1))) (l1 : K.lookup f1 = some ⟨oc1, od1, .func (PySem.W.fnOf "need_guesser" "need_guesser" (defArgs s_need_guesser) (defBody s_need_guesser) (defScope s_need_guesser) .none kV1 dc1 pm1 an1 cd1 ct1), sl1⟩) (c1 : PySem.W.codeIn K cd1 "need_guesser" = true) (k1 : PySem.W.keepIn K (.ref f1) = true)
    (a2 : PySem.W.nsIn K mainGlobals "part_at" = some (some (.ref f2))) (l2 : K.lookup f2 = some ⟨oc2, od2, .func (PySem.W.fnOf "part_at" "part_at" (defArgs s_part_at) (defBody s_part_at) (defScope s_part_at) .none kV2 dc2 pm2 an2 cd2 ct2), sl2⟩) (c2 : PySem.W.codeIn K cd2 "part_at" = true) (k2 : PySem.W.keepIn K (.ref f2) = true)
    (a3 : PySem.W.nsIn K mainGlobals "read" = some (some (.ref f3))) (l3 : K.lookup f3 = some ⟨oc3, od3, .func (PySem.W.fnOf "read" "read" (defArgs s_read) (defBody s_read) (defScope s_read) .none kV3 dc3 pm3 an3 cd3 ct3), sl3⟩) (c3 : PySem.W.codeIn K cd3 "read" = true) (k3 : PySem.W.keepIn K (.ref f3) = true)
    (a4 : PySem.W.nsIn K mainGlobals "_law_taken" = some (some (.ref f4))) (l4 : K.lookup f4 = some ⟨oc4, od4, .func (PySem.W.fnOf "_law_taken" "_law_taken" (defArgs s__law_taken) (defBody s__law_taken) (defScope s__law_taken) .none kV4 dc4 pm4 an4 cd4 ct4), sl4⟩) (c4 : PySem.W.codeIn K cd4 "_law_taken" = true) (k4 : PySem.W.keepIn K (.ref f4) = true)
    (a5 : PySem.W.nsIn K mainGlobals "_law_alike" = some (some (.ref f5))) (l5 : K.lookup f5 = some ⟨oc5, od5, .func (PySem.W.fnOf "_law_alike" "_law_alike" (defArgs s__law_alike) (defBody s__law_alike) (defScope s__law_alike) .none kV5 dc5 pm5 an5 cd5 ct5), sl5⟩) (c5 : PySem.W.codeIn K cd5 "_law_alike" = true) (k5 : PySem.W.keepIn K (.ref f5) = true)
    (a6 : PySem.W.nsIn K mainGlobals "_law_guesser" = some (some (.ref f6))) (l6 : K.lookup f6 = some ⟨oc6, od6, .func (PySem.W.fnOf "_law_guesser" "_law_guesser" (defArgs s__law_guesser) (defBody s__law_guesser) (defScope s__law_guesser) .none kV6 dc6 pm6 an6 cd6 ct6), sl6⟩) (c6 : PySem.W.codeIn K cd6 "_law_guesser" = true) (k6 : PySem.W.keepIn K (.ref f6) = true)
    (a7 : PySem.W.nsIn K mainGlobals "_law_text" = some (some (.ref f7))) (l7 : K.lookup f7 = some ⟨oc7, od7, .func (PySem.W.fnOf "_law_text" "_law_text" (defArgs s__law_text) (defBody s__law_text) (defScope s__law_text) .none kV7 dc7 pm7 an7 cd7 ct7), sl7⟩) (c7 : PySem.W.codeIn K cd7 "_law_text" = true) (k7 : PySem.W.keepIn K (.ref f7) = true)
    (a8 : PySem.W.nsIn K mainGlobals "_law_place" = some (some (.ref f8))) (l8 : K.lookup f8 = some ⟨oc8, od8, .func (PySem.W.fnOf "_law_place" "_law_place" (defArgs s__law_place) (defBody s__law_place) (defScope s__law_place) .none kV8 dc8 pm8 an8 cd8 ct8), sl8⟩) (c8 : PySem.W.codeIn K cd8 "_law_place" = true) (k8 : PySem.W.keepIn K (.ref f8) = true)
    (a9 : PySem.W.nsIn K mainGlobals "_law_part" = some (some (.ref f9))) (l9 : K.lookup f9 = some ⟨oc9, od9, .func (PySem.W.fnOf "_law_part" "_law_part" (defArgs s__law_part) (defBody s__law_part) (defScope s__law_part) .none kV9 dc9 pm9 an9 cd9 ct9), sl9⟩) (c9 : PySem.W.codeIn K cd9 "_law_part" = true) (k9 : PySem.W.keepIn K (.ref f9) = true)
    (a10 : PySem.W.nsIn K mainGlobals "_law_is_good" = some (some (.ref f10))) (l10 : K.lookup f10 = some ⟨oc10, od10, .func (PySem.W.fnOf "_law_is_good" "_law_is_good" (defArgs s__law_is_good) (defBody s__law_is_good) (defScope s__law_is_good) .none kV10 dc10 pm10 an10 cd10 ct10), sl10⟩) (c10 : PySem.W.codeIn K cd10 "_law_is_good" = true) (k10 : PySem.W.keepIn K (.ref f10) = true)
    (a11 : PySem.W.nsIn K mainGlobals "_law_due" = some (some (.ref f11))) (l11 : K.lookup f11 = some ⟨oc11, od11, .func (PySem.W.fnOf "_law_due" "_law_due" (defArgs s__law_due) (defBody s__law_due) (defScope s__law_due) .none kV11 dc11 pm11 an11 cd11 ct11), sl11⟩) (c11 : PySem.W.codeIn K cd11 "_law_due" = true) (k11 : PySem.W.keepIn K (.ref f11) = true)
    (a12 : PySem.W.nsIn K mainGlobals "_law_reading" = some (some (.ref f12))) (l12 : K.lookup f12 = some ⟨oc12, od12, .func (PySem.W.fnOf "_law_reading" "_law_reading" (defArgs s__law_reading) (defBody s__law_reading) (defScope s__law_reading) .none kV12 dc12 pm12 an12 cd12 ct12), sl12⟩) (c12 : PySem.W.codeIn K cd12 "_law_reading" = true) (k12 : PySem.W.keepIn K (.ref f12) = true)
    (a13 : PySem.W.nsIn K mainGlobals "_law_spoilt" = some (some (.ref f13))) (l13 : K.lookup f13 = some ⟨oc13, od13, .func (PySem.W.fnOf "_law_spoilt" "_law_spoilt" (defArgs s__law_spoilt) (defBody s__law_spoilt) (defScope s__law_spoilt) .none kV13 dc13 pm13 an13 cd13 ct13), sl13⟩) (c13 : PySem.W.codeIn K cd13 "_law_spoilt" = true) (k13 : PySem.W.keepIn K (.ref f13) = true)
    (a14 : PySem.W.nsIn K mainGlobals "law" = some (some (.ref f14))) (l14 : K.lookup f14 = some ⟨oc14, od14, .func (PySem.W.fnOf "law" "law" (defArgs s_law) (defBody s_law) (defScope s_law) .none kV14 dc14 pm14 an14 cd14 ct14), sl14⟩) (c14 : PySem.W.codeIn K cd14 "law" = true) (k14 : PySem.W.keepIn K (.ref f14) = true)
    (aE0 : PySem.W.nsIn K mainGlobals "WellError" = some (some (.ref E0)))
    (exE0 : PySem.W.subIn K (.ref E0) (.type "BaseException") = some true)
    (hdE0 : PySem.W.hasDictIn K E0 = true)
    (tyE0 : PySem.W.typeIn K (.ref E0) = some (.type "type"))
    (rdE0 : PySem.W.readsIn K E0 (.type "type") = true)
    (sgE0 : PySem.W.specialIn K (.ref E0) "__getattribute__" = some (some (.builtin "type.__getattribute__")))
    (nvE0 : PySem.W.nsIn K mainGlobals "ValueError" = some none)
    (fcE0 : PySem.W.findCls K (.ref E0) (.type "type") "__init__" = some (.val (.builtin "ValueError.__init__")))
    (hnE0 : PySem.W.specialIn K (.builtin "object.__class__") "__get__" = some (some (.builtin "getset_descriptor.__get__")))
    (htE0 : PySem.W.takesIn K (.builtin "object.__class__") = some true)
    (aE1 : PySem.W.nsIn K mainGlobals "BadText" = some (some (.ref E1)))
    (kpE1 : PySem.W.keepIn K (.ref E1) = true)
    (exE1 : PySem.W.subIn K (.ref E1) (.type "BaseException") = some true)
    (veE1 : PySem.W.subIn K (.ref E1) (.type "ValueError") = some true)
    (weE1 : PySem.W.subIn K (.ref E1) (.ref E0) = some true)
    (tyE1 : PySem.W.typeIn K (.ref E1) = some (.type "type"))
    (hdE1 : PySem.W.hasDictIn K E1 = true)
    (gaE1 : PySem.W.findIn K (.ref E1) "__getattribute__" = some (some (.builtin "BaseException.__getattribute__")))
    (ggE1 : PySem.W.findIn K (.ref E1) "__getattr__" = some none)
    (haE1 : PySem.W.findIn K (.ref E1) "__class__" = some (some (.builtin "object.__class__")))
    (hmE1 : PySem.W.mroIn K E1 (.type "object") = some true)
    (clE1 : K.lookup E1 = some (excClassObj nmE1 qE1 E1 NE1 bsE1 bmE1 true snE1 suE1 abE1 coE1 ddE1 m0E1 m1E1 m2E1 m3E1 m5E1 "ValueError.__new__"))
    (rvE1 : PySem.HandSPX.refsVE bmE1 = true)
    (saE1 : PySem.W.findIn K (.ref E1) "__setattr__" = some (some (.builtin "object.__setattr__")))
    (iCE1 : PySem.W.findIn K (.ref E1) "__init__" = some (some (.ref fE1)))
    (tIE1 : PySem.W.typeIn K (.ref fE1) = some (.type "function"))
    (noE1 : PySem.W.findIn K (.ref E1) "place" = some none)
    (flE1 : K.lookup fE1 = some ⟨ocE1, odE1, .func (PySem.W.fnOf "__init__" "BadText.__init__" (defArgs s_BadText___init__) (defBody s_BadText___init__) (defScope s_BadText___init__) .none kVE1 dcE1 pmE1 anE1 cdE1 ctE1), slE1⟩)
    (fcE1 : PySem.W.codeIn K cdE1 "BadText.__init__" = true)
    (fkE1 : PySem.W.keepIn K (.ref fE1) = true)
    (aE2 : PySem.W.nsIn K mainGlobals "BadGuesser" = some (some (.ref E2)))
    (kpE2 : PySem.W.keepIn K (.ref E2) = true)
    (exE2 : PySem.W.subIn K (.ref E2) (.type "BaseException") = some true)
    (veE2 : PySem.W.subIn K (.ref E2) (.type "ValueError") = some true)
    (weE2 : PySem.W.subIn K (.ref E2) (.ref E0) = some true)
    (tyE2 : PySem.W.typeIn K (.ref E2) = some (.type "type"))
    (hdE2 : PySem.W.hasDictIn K E2 = true)
    (gaE2 : PySem.W.findIn K (.ref E2) "__getattribute__" = some (some (.builtin "BaseException.__getattribute__")))
    (ggE2 : PySem.W.findIn K (.ref E2) "__getattr__" = some none)
    (haE2 : PySem.W.findIn K (.ref E2) "__class__" = some (some (.builtin "object.__class__")))
    (hmE2 : PySem.W.mroIn K E2 (.type "object") = some true)
    (xpE2 : PySem.W.excIn K E2 [.type "ValueError", .type "Exception", .type "BaseException", .type "object"] "ValueError.__new__" = true)
    (aE3 : PySem.W.nsIn K mainGlobals "BadAsk" = some (some (.ref E3)))
    (kpE3 : PySem.W.keepIn K (.ref E3) = true)
    (exE3 : PySem.W.subIn K (.ref E3) (.type "BaseException") = some true)
    (veE3 : PySem.W.subIn K (.ref E3) (.type "ValueError") = some true)
    (weE3 : PySem.W.subIn K (.ref E3) (.ref E0) = some true)
    (tyE3 : PySem.W.typeIn K (.ref E3) = some (.type "type"))
    (hdE3 : PySem.W.hasDictIn K E3 = true)
    (gaE3 : PySem.W.findIn K (.ref E3) "__getattribute__" = some (some (.builtin "BaseException.__getattribute__")))
    (ggE3 : PySem.W.findIn K (.ref E3) "__getattr__" = some none)
    (haE3 : PySem.W.findIn K (.ref E3) "__class__" = some (some (.builtin "object.__class__")))
    (hmE3 : PySem.W.mroIn K E3 (.type "object") = some true)
    (aE4 : PySem.W.nsIn K mainGlobals "BadRow" = some (some (.ref E4)))
    (kpE4 : PySem.W.keepIn K (.ref E4) = true)
    (exE4 : PySem.W.subIn K (.ref E4) (.type "BaseException") = some true)
    (veE4 : PySem.W.subIn K (.ref E4) (.type "ValueError") = some true)
    (weE4 : PySem.W.subIn K (.ref E4) (.ref E0) = some true)
    (tyE4 : PySem.W.typeIn K (.ref E4) = some (.type "type"))
    (hdE4 : PySem.W.hasDictIn K E4 = true)
    (gaE4 : PySem.W.findIn K (.ref E4) "__getattribute__" = some (some (.builtin "BaseException.__getattribute__")))
    (ggE4 : PySem.W.findIn K (.ref E4) "__getattr__" = some none)
    (haE4 : PySem.W.findIn K (.ref E4) "__class__" = some (some (.builtin "object.__class__")))
    (hmE4 : PySem.W.mroIn K E4 (.type "object") = some true)
    (aE5 : PySem.W.nsIn K mainGlobals "BadSetting" = some (some (.ref E5)))
    (kpE5 : PySem.W.keepIn K (.ref E5) = true)
    (exE5 : PySem.W.subIn K (.ref E5) (.type "BaseException") = some true)
    (veE5 : PySem.W.subIn K (.ref E5) (.type "ValueError") = some true)
    (weE5 : PySem.W.subIn K (.ref E5) (.ref E0) = some true)
    (tyE5 : PySem.W.typeIn K (.ref E5) = some (.type "type"))
    (hdE5 : PySem.W.hasDictIn K E5 = true)
    (gaE5 : PySem.W.findIn K (.ref E5) "__getattribute__" = some (some (.builtin "BaseException.__getattribute__")))
    (ggE5 : PySem.W.findIn K (.ref E5) "__getattr__" = some none)
    (haE5 : PySem.W.findIn K (.ref E5) "__class__" = some (some (.builtin "object.__class__")))
    (hmE5 : PySem.W.mroIn K E5 (.type "object") = some true)
    (sb1_1 : PySem.W.subIn K (.ref E1) (.ref E1) = some true)
    (sb1_2 : PySem.W.subIn K (.ref E1) (.ref E2) = some false)
    (ne1_2 : E1 ≠ E2)
    (sb1_3 : PySem.W.subIn K (.ref E1) (.ref E3) = some false)
    (ne1_3 : E1 ≠ E3)
    (sb1_4 : PySem.W.subIn K (.ref E1) (.ref E4) = some false)
    (ne1_4 : E1 ≠ E4)
    (sb1_5 : PySem.W.subIn K (.ref E1) (.ref E5) = some false)
    (ne1_5 : E1 ≠ E5)
    (sb2_1 : PySem.W.subIn K (.ref E2) (.ref E1) = some false)
    (ne2_1 : E2 ≠ E1)
    (sb2_2 : PySem.W.subIn K (.ref E2) (.ref E2) = some true)
    (sb2_3 : PySem.W.subIn K (.ref E2) (.ref E3) = some false)
    (ne2_3 : E2 ≠ E3)
    (sb2_4 : PySem.W.subIn K (.ref E2) (.ref E4) = some false)
    (ne2_4 : E2 ≠ E4)
    (sb2_5 : PySem.W.subIn K (.ref E2) (.ref E5) = some false)
    (ne2_5 : E2 ≠ E5)
    (ad0 : PySem.W.nsIn K mainGlobals "SORTS" = some (some (.ref d0))) (ld0 : K.lookup d0 = some ⟨.type "dict", none, .dict es0 en0, #[]⟩) (lo0 : (d0 == sysModules) = false) (li0 : PySem.W.KeysLit w.params es0.toList) (ee0 : ∃ t0 u0 t1 u1 t2 u2 t3 u3 t4 u4, es0.toList.map (fun e => (e.key, e.val)) = [(.str "none" t0, .int 1 u0), (.str "next" t1, .int 2 u1), (.str "stride" t2, .int 2 u2), (.str "pairs" t3, .int 2 u3), (.str "both" t4, .int 3 u4)])
    (ad1 : PySem.W.nsIn K mainGlobals "MOST_OF" = some (some (.ref d1))) (ld1 : K.lookup d1 = some ⟨.type "dict", none, .dict es1 en1, #[]⟩) (lo1 : (d1 == sysModules) = false) (li1 : PySem.W.KeysLit w.params es1.toList) (ee1 : ∃ t0 u0 t1 u1 t2 u2, es1.toList.map (fun e => (e.key, e.val)) = [(.str "next" t0, .int 3 u0), (.str "stride" t1, .int 3 u1), (.str "pairs" t2, .int 2 u2)])
    (ai0 : PySem.W.nsIn K mainGlobals "MOST_WITHIN" = some (some (.int 3 ti0)))
    (as0 : PySem.W.nsIn K mainGlobals "FIGURES" = some (some (.str "0123456789" ts0)))
    (z0 : PySem.W.nsIn K mainGlobals "len" = some none)
    (z1 : PySem.W.nsIn K mainGlobals "range" = some none)
    (z2 : PySem.W.nsIn K mainGlobals "int" = some none)
    (z3 : PySem.W.nsIn K mainGlobals "str" = some none)
    (z4 : PySem.W.nsIn K mainGlobals "bool" = some none)
    (z5 : PySem.W.nsIn K mainGlobals "tuple" = some none)
    (z6 : PySem.W.nsIn K mainGlobals "list" = some none)
    (z7 : PySem.W.nsIn K mainGlobals "isinstance" = some none)
    (z8 : PySem.W.nsIn K mainGlobals "max" = some none)
    (z9 : PySem.W.nsIn K mainGlobals "min" = some none)
    (z10 : PySem.W.nsIn K mainGlobals "sum" = some none)
    (z11 : PySem.W.nsIn K mainGlobals "sorted" = some none)
    (z12 : PySem.W.nsIn K mainGlobals "dict" = some none)
    (z13 : PySem.W.nsIn K mainGlobals "set" = some none)
    (z14 : PySem.W.nsIn K mainGlobals "zip" = some none)
    (z15 : PySem.W.nsIn K mainGlobals "enumerate" = some none) :
    ∃ fd : FuncData, (∀ (s : Shared) (v : Value), BindsTo s fd ⟨[v], []⟩ [("_law_script", v)]) ∧ ∀ base : Heap, K.In base → base.Ns mainGlobals mg → FnOk l.prog w K mg base CX0 42 fa fd ["_law_script"] (spLaw K) := by
  have e := hfa.symm.trans (PySem.W.mg_of X G a14)
  cases e
  have D_is_guesser : Df K mg "is_guesser" s_is_guesser p_is_guesser f0 (PySem.W.fnOf "is_guesser" "is_guesser" (defArgs s_is_guesser) (defBody s_is_guesser) (defScope s_is_guesser) .none kV0 dc0 pm0 an0 cd0 ct0) := ⟨fun_mk (st := s_is_guesser) l0 c0 k0, PySem.W.mg_of X G a0, (fun_mk (st := s_is_guesser) l0 c0 k0).binds (ps := p_is_guesser) fun _ _ _ _ _ _ us hl => match us, hl with | [_, _], _ => rfl⟩
  have D_need_guesser : Df K mg "need_guesser" s_need_guesser p_need_guesser f1 (PySem.W.fnOf "need_guesser" "need_guesser" (defArgs s_need_guesser) (defBody s_need_guesser) (defScope s_need_guesser) .none kV1 dc1 pm1 an1 cd1 ct1) := ⟨fun_mk (st := s_need_guesser) l1 c1 k1, PySem.W.mg_of X G a1, (fun_mk (st := s_need_guesser) l1 c1 k1).binds (ps := p_need_guesser) fun _ _ _ _ _ _ us hl => match us, hl with | [_], _ => rfl⟩
  have D_part_at : Df K mg "part_at" s_part_at p_part_at f2 (PySem.W.fnOf "part_at" "part_at" (defArgs s_part_at) (defBody s_part_at) (defScope s_part_at) .none kV2 dc2 pm2 an2 cd2 ct2) := ⟨fun_mk (st := s_part_at) l2 c2 k2, PySem.W.mg_of X G a2, (fun_mk (st := s_part_at) l2 c2 k2).binds (ps := p_part_at) fun _ _ _ _ _ _ us hl => match us, hl with | [_, _], _ => rfl⟩
  have D_read : Df K mg "read" s_read p_read f3 (PySem.W.fnOf "read" "read" (defArgs s_read) (defBody s_read) (defScope s_read) .none kV3 dc3 pm3 an3 cd3 ct3) := ⟨fun_mk (st := s_read) l3 c3 k3, PySem.W.mg_of X G a3, (fun_mk (st := s_read) l3 c3 k3).binds (ps := p_read) fun _ _ _ _ _ _ us hl => match us, hl with | [_], _ => rfl⟩
  have D__law_taken : Df K mg "_law_taken" s__law_taken p__law_taken f4 (PySem.W.fnOf "_law_taken" "_law_taken" (defArgs s__law_taken) (defBody s__law_taken) (defScope s__law_taken) .none kV4 dc4 pm4 an4 cd4 ct4) := ⟨fun_mk (st := s__law_taken) l4 c4 k4, PySem.W.mg_of X G a4, (fun_mk (st := s__law_taken) l4 c4 k4).binds (ps := p__law_taken) fun _ _ _ _ _ _ us hl => match us, hl with | [_, _], _ => rfl⟩
  have D__law_alike : Df K mg "_law_alike" s__law_alike p__law_alike f5 (PySem.W.fnOf "_law_alike" "_law_alike" (defArgs s__law_alike) (defBody s__law_alike) (defScope s__law_alike) .none kV5 dc5 pm5 an5 cd5 ct5) := ⟨fun_mk (st := s__law_alike) l5 c5 k5, PySem.W.mg_of X G a5, (fun_mk (st := s__law_alike) l5 c5 k5).binds (ps := p__law_alike) fun _ _ _ _ _ _ us hl => match us, hl with | [_, _], _ => rfl⟩
  have D__law_guesser : Df K mg "_law_guesser" s__law_guesser p__law_guesser f6 (PySem.W.fnOf "_law_guesser" "_law_guesser" (defArgs s__law_guesser) (defBody s__law_guesser) (defScope s__law_guesser) .none kV6 dc6 pm6 an6 cd6 ct6) := ⟨fun_mk (st := s__law_guesser) l6 c6 k6, PySem.W.mg_of X G a6, (fun_mk (st := s__law_guesser) l6 c6 k6).binds (ps := p__law_guesser) fun _ _ _ _ _ _ us hl => match us, hl with | [_, _], _ => rfl⟩
  have D__law_text : Df K mg "_law_text" s__law_text p__law_text f7 (PySem.W.fnOf "_law_text" "_law_text" (defArgs s__law_text) (defBody s__law_text) (defScope s__law_text) .none kV7 dc7 pm7 an7 cd7 ct7) := ⟨fun_mk (st := s__law_text) l7 c7 k7, PySem.W.mg_of X G a7, (fun_mk (st := s__law_text) l7 c7 k7).binds (ps := p__law_text) fun _ _ _ _ _ _ us hl => match us, hl with | [_], _ => rfl⟩
  have D__law_place : Df K mg "_law_place" s__law_place p__law_place f8 (PySem.W.fnOf "_law_place" "_law_place" (defArgs s__law_place) (defBody s__law_place) (defScope s__law_place) .none kV8 dc8 pm8 an8 cd8 ct8) := ⟨fun_mk (st := s__law_place) l8 c8 k8, PySem.W.mg_of X G a8, (fun_mk (st := s__law_place) l8 c8 k8).binds (ps := p__law_place) fun _ _ _ _ _ _ us hl => match us, hl with | [_], _ => rfl⟩
  have D__law_part : Df K mg "_law_part" s__law_part p__law_part f9 (PySem.W.fnOf "_law_part" "_law_part" (defArgs s__law_part) (defBody s__law_part) (defScope s__law_part) .none kV9 dc9 pm9 an9 cd9 ct9) := ⟨fun_mk (st := s__law_part) l9 c9 k9, PySem.W.mg_of X G a9, (fun_mk (st := s__law_part) l9 c9 k9).binds (ps := p__law_part) fun _ _ _ _ _ _ us hl => match us, hl with | [_, _], _ => rfl⟩
  have D__law_is_good : Df K mg "_law_is_good" s__law_is_good p__law_is_good f10 (PySem.W.fnOf "_law_is_good" "_law_is_good" (defArgs s__law_is_good) (defBody s__law_is_good) (defScope s__law_is_good) .none kV10 dc10 pm10 an10 cd10 ct10) := ⟨fun_mk (st := s__law_is_good) l10 c10 k10, PySem.W.mg_of X G a10, (fun_mk (st := s__law_is_good) l10 c10 k10).binds (ps := p__law_is_good) fun _ _ _ _ _ _ us hl => match us, hl with | [_, _], _ => rfl⟩
  have D__law_due : Df K mg "_law_due" s__law_due p__law_due f11 (PySem.W.fnOf "_law_due" "_law_due" (defArgs s__law_due) (defBody s__law_due) (defScope s__law_due) .none kV11 dc11 pm11 an11 cd11 ct11) := ⟨fun_mk (st := s__law_due) l11 c11 k11, PySem.W.mg_of X G a11, (fun_mk (st := s__law_due) l11 c11 k11).binds (ps := p__law_due) fun _ _ _ _ _ _ us hl => match us, hl with | [_], _ => rfl⟩
  have D__law_reading : Df K mg "_law_reading" s__law_reading p__law_reading f12 (PySem.W.fnOf "_law_reading" "_law_reading" (defArgs s__law_reading) (defBody s__law_reading) (defScope s__law_reading) .none kV12 dc12 pm12 an12 cd12 ct12) := ⟨fun_mk (st := s__law_reading) l12 c12 k12, PySem.W.mg_of X G a12, (fun_mk (st := s__law_reading) l12 c12 k12).binds (ps := p__law_reading) fun _ _ _ _ _ _ us hl => match us, hl with | [_], _ => rfl⟩
  have D__law_spoilt : Df K mg "_law_spoilt" s__law_spoilt p__law_spoilt f13 (PySem.W.fnOf "_law_spoilt" "_law_spoilt" (defArgs s__law_spoilt) (defBody s__law_spoilt) (defScope s__law_spoilt) .none kV13 dc13 pm13 an13 cd13 ct13) := ⟨fun_mk (st := s__law_spoilt) l13 c13 k13, PySem.W.mg_of X G a13, (fun_mk (st := s__law_spoilt) l13 c13 k13).binds (ps := p__law_spoilt) fun _ _ _ _ _ _ us hl => match us, hl with | [_, _], _ => rfl⟩
  have WC : WellC K mg E0 := ⟨PySem.W.mg_of X G aE0, exE0, hdE0, tyE0, rdE0, sgE0, PySem.W.mg_none_of X G nvE0, fcE0, hnE0, htE0⟩
  have XE_BadText : ErrX K mg "BadText" E1 E0 := ⟨PySem.W.mg_of X G aE1, kpE1, exE1, veE1, weE1, tyE1, hdE1, gaE1, ggE1, haE1, hmE1⟩
  have XI_BadText : ErrI K "place" E1 fE1 := ⟨⟨_, _, _, _, _, _, _, _, _, _, _, _, _, _, _, clE1, rvE1⟩, saE1, iCE1, tIE1, noE1⟩
  have D_BadText___init__ : Ef K "BadText.__init__" s_BadText___init__ p_BadText___init__ fE1 (PySem.W.fnOf "__init__" "BadText.__init__" (defArgs s_BadText___init__) (defBody s_BadText___init__) (defScope s_BadText___init__) .none kVE1 dcE1 pmE1 anE1 cdE1 ctE1) := ⟨(fun_mk (st := s_BadText___init__) flE1 fcE1 fkE1), (fun_mk (st := s_BadText___init__) flE1 fcE1 fkE1).binds (ps := p_BadText___init__) fun _ _ _ _ _ _ us hl => match us, hl with | [_, _], _ => rfl⟩
  have XE_BadGuesser : ErrX K mg "BadGuesser" E2 E0 := ⟨PySem.W.mg_of X G aE2, kpE2, exE2, veE2, weE2, tyE2, hdE2, gaE2, ggE2, haE2, hmE2⟩
  have XP_BadGuesser : ErrP K E2 := xpE2
  have XE_BadAsk : ErrX K mg "BadAsk" E3 E0 := ⟨PySem.W.mg_of X G aE3, kpE3, exE3, veE3, weE3, tyE3, hdE3, gaE3, ggE3, haE3, hmE3⟩
  have XE_BadRow : ErrX K mg "BadRow" E4 E0 := ⟨PySem.W.mg_of X G aE4, kpE4, exE4, veE4, weE4, tyE4, hdE4, gaE4, ggE4, haE4, hmE4⟩
  have XE_BadSetting : ErrX K mg "BadSetting" E5 E0 := ⟨PySem.W.mg_of X G aE5, kpE5, exE5, veE5, weE5, tyE5, hdE5, gaE5, ggE5, haE5, hmE5⟩
  have W_BadText_BadText : Two K E1 E1 true := ⟨sb1_1, fun q => nomatch q⟩
  have W_BadText_BadGuesser : Two K E1 E2 false := ⟨sb1_2, fun q => ne1_2⟩
  have W_BadText_BadAsk : Two K E1 E3 false := ⟨sb1_3, fun q => ne1_3⟩
  have W_BadText_BadRow : Two K E1 E4 false := ⟨sb1_4, fun q => ne1_4⟩
  have W_BadText_BadSetting : Two K E1 E5 false := ⟨sb1_5, fun q => ne1_5⟩
  have W_BadGuesser_BadText : Two K E2 E1 false := ⟨sb2_1, fun q => ne2_1⟩
  have W_BadGuesser_BadGuesser : Two K E2 E2 true := ⟨sb2_2, fun q => nomatch q⟩
  have W_BadGuesser_BadAsk : Two K E2 E3 false := ⟨sb2_3, fun q => ne2_3⟩
  have W_BadGuesser_BadRow : Two K E2 E4 false := ⟨sb2_4, fun q => ne2_4⟩
  have W_BadGuesser_BadSetting : Two K E2 E5 false := ⟨sb2_5, fun q => ne2_5⟩
  have I_SORTS : IDict K w d0 [("none", 1), ("next", 2), ("stride", 2), ("pairs", 2), ("both", 3)] := ⟨⟨es0, en0, ⟨ld0, li0, lo0⟩, by obtain ⟨_, _, _, _, _, _, _, _, _, _, e⟩ := ee0; rw [e]; exact (.cons ⟨⟨_, rfl⟩, ⟨_, rfl⟩⟩ (.cons ⟨⟨_, rfl⟩, ⟨_, rfl⟩⟩ (.cons ⟨⟨_, rfl⟩, ⟨_, rfl⟩⟩ (.cons ⟨⟨_, rfl⟩, ⟨_, rfl⟩⟩ (.cons ⟨⟨_, rfl⟩, ⟨_, rfl⟩⟩ .nil)))))⟩⟩
  have g_SORTS := PySem.W.mg_of X G ad0
  have I_MOST_OF : IDict K w d1 [("next", 3), ("stride", 3), ("pairs", 2)] := ⟨⟨es1, en1, ⟨ld1, li1, lo1⟩, by obtain ⟨_, _, _, _, _, _, e⟩ := ee1; rw [e]; exact (.cons ⟨⟨_, rfl⟩, ⟨_, rfl⟩⟩ (.cons ⟨⟨_, rfl⟩, ⟨_, rfl⟩⟩ (.cons ⟨⟨_, rfl⟩, ⟨_, rfl⟩⟩ .nil)))⟩⟩
  have g_MOST_OF := PySem.W.mg_of X G ad1
  have g_MOST_WITHIN : ∃ t, mg "MOST_WITHIN" = some (.int 3 t) := ⟨_, PySem.W.mg_of X G ai0⟩
  have g_FIGURES : ∃ t, mg "FIGURES" = some (.str "0123456789" t) := ⟨_, PySem.W.mg_of X G as0⟩
  have T : Nms mg := ⟨PySem.W.mg_none_of X G z0, PySem.W.mg_none_of X G z1, PySem.W.mg_none_of X G z2, PySem.W.mg_none_of X G z3, PySem.W.mg_none_of X G z4, PySem.W.mg_none_of X G z5, PySem.W.mg_none_of X G z6, PySem.W.mg_none_of X G z7, PySem.W.mg_none_of X G z8, PySem.W.mg_none_of X G z9, PySem.W.mg_none_of X G z10, PySem.W.mg_none_of X G z11, PySem.W.mg_none_of X G z12, PySem.W.mg_none_of X G z13, PySem.W.mg_none_of X G z14, PySem.W.mg_none_of X G z15⟩
  exact ⟨PySem.W.fnOf "law" "law" (defArgs s_law) (defBody s_law) (defScope s_law) .none kV14 dc14 pm14 an14 cd14 ct14, fun s v => .of_eq rfl, fun base _ _ => ok_law T ⟨g_SORTS, I_SORTS, g_MOST_OF, I_MOST_OF, g_MOST_WITHIN⟩ g_FIGURES ⟨WC, XE_BadText, XE_BadGuesser, XE_BadAsk, XE_BadRow, XE_BadSetting, W_BadText_BadText, W_BadText_BadGuesser, W_BadText_BadAsk, W_BadText_BadRow, W_BadText_BadSetting, W_BadGuesser_BadText, W_BadGuesser_BadGuesser, W_BadGuesser_BadAsk, W_BadGuesser_BadRow, W_BadGuesser_BadSetting⟩ XI_BadText D_BadText___init__ XP_BadGuesser D_is_guesser D_need_guesser D_part_at D_read D__law_taken D__law_alike D__law_guesser D__law_text D__law_place D__law_part D__law_is_good D__law_due D__law_reading D__law_spoilt (fun_mk (st := s_law) l14 c14 k14)⟩
end St
open PySem PySem.W PyProof.Rows
set_option maxHeartbeats 0 in
theorem PySem.Challenge.cw_stridewell_k13_texts_that_tell_no_guesse_holds : PySem.Challenge.rw_stridewell_k13_texts_that_tell_no_guesse.Holds := by
  w_on; o_law; k_head; (case hw => w_witness2)
  k_fill
  refine L2.walk_of (l := PySem.Challenge.rw_stridewell_k13_texts_that_tell_no_guesse) (n := 63) (k := 42) (x := "_law_script") (CX := fun _ => L2.CX0) (sp := fun w => St.spLaw _) rfl (by decide) rfl ⟨rfl, by decide, by decide⟩ (fun w h Y => PySem.W.kIn_of Y) ?F (fun _ _ a ns hl hO hS => ⟨a, ns, rfl, St.Sc.of hO hS, fun _ => rfl⟩) (fun _ _ _ _ _ h => h)
  case F =>
    intro w mg fa h KX G hmg
    refine' St.all_mk KX G hmg ?a0 ?l0 ?c0 ?k0 ?a1 ?l1 ?c1 ?k1 ?a2 ?l2 ?c2 ?k2 ?a3 ?l3 ?c3 ?k3 ?a4 ?l4 ?c4 ?k4 ?a5 ?l5 ?c5 ?k5 ?a6 ?l6 ?c6 ?k6 ?a7 ?l7 ?c7 ?k7 ?a8 ?l8 ?c8 ?k8 ?a9 ?l9 ?c9 ?k9 ?a10 ?l10 ?c10 ?k10 ?a11 ?l11 ?c11 ?k11 ?a12 ?l12 ?c12 ?k12 ?a13 ?l13 ?c13 ?k13 ?a14 ?l14 ?c14 ?k14 ?aE0 ?exE0 ?hdE0 ?tyE0 ?rdE0 ?sgE0 ?nvE0 ?fcE0 ?hnE0 ?htE0 ?aE1 ?kpE1 ?exE1 ?veE1 ?weE1 ?tyE1 ?hdE1 ?gaE1 ?ggE1 ?haE1 ?hmE1 ?clE1 ?rvE1 ?saE1 ?iCE1 ?tIE1 ?noE1 ?flE1 ?fcE1 ?fkE1 ?aE2 ?kpE2 ?exE2 ?veE2 ?weE2 ?tyE2 ?hdE2 ?gaE2 ?ggE2 ?haE2 ?hmE2 ?xpE2 ?aE3 ?kpE3 ?exE3 ?veE3 ?weE3 ?tyE3 ?hdE3 ?gaE3 ?ggE3 ?haE3 ?hmE3 ?aE4 ?kpE4 ?exE4 ?veE4 ?weE4 ?tyE4 ?hdE4 ?gaE4 ?ggE4 ?haE4 ?hmE4 ?aE5 ?kpE5 ?exE5 ?veE5 ?weE5 ?tyE5 ?hdE5 ?gaE5 ?ggE5 ?haE5 ?hmE5 ?sb1_1 ?sb1_2 ?ne1_2 ?sb1_3 ?ne1_3 ?sb1_4 ?ne1_4 ?sb1_5 ?ne1_5 ?sb2_1 ?ne2_1 ?sb2_2 ?sb2_3 ?ne2_3 ?sb2_4 ?ne2_4 ?sb2_5 ?ne2_5 ?ad0 ?ld0 ?lo0 ?li0 ?ee0 ?ad1 ?ld1 ?lo1 ?li1 ?ee1 ?ai0 ?as0 ?z0 ?z1 ?z2 ?z3 ?z4 ?z5 ?z6 ?z7 ?z8 ?z9 ?z10 ?z11 ?z12 ?z13 ?z14 ?z15
    (case a0 => k_is); (case l0 => k_is); (case c0 => k_is); (case k0 => k_is); (case a1 => k_is); (case l1 => k_is)
    (case c1 => k_is); (case k1 => k_is); (case a2 => k_is); (case l2 => k_is); (case c2 => k_is); (case k2 => k_is)
    (case a3 => k_is); (case l3 => k_is); (case c3 => k_is); (case k3 => k_is); (case a4 => k_is); (case l4 => k_is)
    (case c4 => k_is); (case k4 => k_is); (case a5 => k_is); (case l5 => k_is); (case c5 => k_is); (case k5 => k_is)
    (case a6 => k_is); (case l6 => k_is); (case c6 => k_is); (case k6 => k_is); (case a7 => k_is); (case l7 => k_is)
    (case c7 => k_is); (case k7 => k_is); (case a8 => k_is); (case l8 => k_is); (case c8 => k_is); (case k8 => k_is)
    (case a9 => k_is); (case l9 => k_is); (case c9 => k_is); (case k9 => k_is); (case a10 => k_is); (case l10 => k_is)
    (case c10 => k_is); (case k10 => k_is); (case a11 => k_is); (case l11 => k_is); (case c11 => k_is); (case k11 => k_is)
    (case a12 => k_is); (case l12 => k_is); (case c12 => k_is); (case k12 => k_is); (case a13 => k_is); (case l13 => k_is)
    (case c13 => k_is); (case k13 => k_is); (case a14 => k_is); (case l14 => k_is); (case c14 => k_is); (case k14 => k_is)
    (case aE0 => k_is); (case exE0 => k_is); (case hdE0 => k_is); (case tyE0 => k_is); (case rdE0 => k_is); (case sgE0 => k_is)
    (case nvE0 => k_is); (case fcE0 => first | k_is | decide +kernel); (case hnE0 => first | k_is | decide +kernel); (case htE0 => first | k_is | decide +kernel); (case aE1 => k_is); (case kpE1 => k_is)
    (case exE1 => k_is); (case veE1 => k_is); (case weE1 => k_is); (case tyE1 => k_is); (case hdE1 => k_is); (case gaE1 => k_is)
    (case ggE1 => k_is); (case haE1 => k_is); (case hmE1 => k_is); (case clE1 => k_is); (case rvE1 => decide +kernel); (case saE1 => k_is)
    (case iCE1 => k_is); (case tIE1 => k_is); (case noE1 => k_is); (case flE1 => k_is); (case fcE1 => k_is); (case fkE1 => k_is)
    (case aE2 => k_is); (case kpE2 => k_is); (case exE2 => k_is); (case veE2 => k_is); (case weE2 => k_is); (case tyE2 => k_is)
    (case hdE2 => k_is); (case gaE2 => k_is); (case ggE2 => k_is); (case haE2 => k_is); (case hmE2 => k_is); (case xpE2 => k_exc)
    (case aE3 => k_is); (case kpE3 => k_is); (case exE3 => k_is); (case veE3 => k_is); (case weE3 => k_is); (case tyE3 => k_is)
    (case hdE3 => k_is); (case gaE3 => k_is); (case ggE3 => k_is); (case haE3 => k_is); (case hmE3 => k_is); (case aE4 => k_is)
    (case kpE4 => k_is); (case exE4 => k_is); (case veE4 => k_is); (case weE4 => k_is); (case tyE4 => k_is); (case hdE4 => k_is)
    (case gaE4 => k_is); (case ggE4 => k_is); (case haE4 => k_is); (case hmE4 => k_is); (case aE5 => k_is); (case kpE5 => k_is)
    (case exE5 => k_is); (case veE5 => k_is); (case weE5 => k_is); (case tyE5 => k_is); (case hdE5 => k_is); (case gaE5 => k_is)
    (case ggE5 => k_is); (case haE5 => k_is); (case hmE5 => k_is); (case sb1_1 => k_is); (case sb1_2 => k_is); (case ne1_2 => decide)
    (case sb1_3 => k_is); (case ne1_3 => decide); (case sb1_4 => k_is); (case ne1_4 => decide); (case sb1_5 => k_is); (case ne1_5 => decide)
    (case sb2_1 => k_is); (case ne2_1 => decide); (case sb2_2 => k_is); (case sb2_3 => k_is); (case ne2_3 => decide); (case sb2_4 => k_is)
    (case ne2_4 => decide); (case sb2_5 => k_is); (case ne2_5 => decide); (case ad0 => k_is); (case ld0 => k_is); (case lo0 => decide)
    (case li0 => exact ⟨⟨_, _, rfl, rfl⟩, ⟨_, _, rfl, rfl⟩, ⟨_, _, rfl, rfl⟩, ⟨_, _, rfl, rfl⟩, ⟨_, _, rfl, rfl⟩, True.intro⟩); (case ee0 => exact ⟨_, _, _, _, _, _, _, _, _, _, rfl⟩); (case ad1 => k_is); (case ld1 => k_is); (case lo1 => decide); (case li1 => exact ⟨⟨_, _, rfl, rfl⟩, ⟨_, _, rfl, rfl⟩, ⟨_, _, rfl, rfl⟩, True.intro⟩)
    (case ee1 => exact ⟨_, _, _, _, _, _, rfl⟩); (case ai0 => k_is); (case as0 => k_is); (case z0 => k_is); (case z1 => k_is); (case z2 => k_is)
    (case z3 => k_is); (case z4 => k_is); (case z5 => k_is); (case z6 => k_is); (case z7 => k_is); (case z8 => k_is)
    (case z9 => k_is); (case z10 => k_is); (case z11 => k_is); (case z12 => k_is); (case z13 => k_is); (case z14 => k_is)
    (case z15 => k_is)

