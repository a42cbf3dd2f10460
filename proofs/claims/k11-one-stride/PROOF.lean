import PyProof.Rows.All
import Wide.All
import OpenK.AllK
import Wide.FinOn
import HandS.ForMost
import HandS.IsInst
import HandS.RaiseMore
import HandS.More
import HandS.Evl
import KE.KDictPairs
import HandS.DictTup
import HandS.SortOrd
import HandS.SortRule
import HandS.TupAny
import HandS.SetFor
import KE.KTupSum
import PySem.Challenge.RW_stridewell_k11_whole_one_stride_througho
set_option Elab.async false
set_option linter.all false
set_option maxRecDepth 100000
set_option maxHeartbeats 0
namespace St
open PySem PySem.Spec PyProof.Rows L2
/-! ### a def of the text with its name and how its arguments bind -/
structure Df (K : PySem.W.Frag) (mg : Str → Option Value) (x : Str) (st : Stmt) (ps : List Str) (f : Addr) (fd : FuncData) : Prop where
  F : Fun K x x st f fd
  m : mg x = some (.ref f)
  b : Binds K fd ps []
/-- the built-ins' names are free -/
structure Nms (mg : Str → Option Value) : Prop where
  n_len : mg "len" = none
  n_range : mg "range" = none
  n_int : mg "int" = none
  n_str : mg "str" = none
  n_bool : mg "bool" = none
  n_tuple : mg "tuple" = none
  n_list : mg "list" = none
  n_isinstance : mg "isinstance" = none
  n_max : mg "max" = none
  n_min : mg "min" = none
  n_sum : mg "sum" = none
  n_sorted : mg "sorted" = none
  n_dict : mg "dict" = none
  n_set : mg "set" = none
  n_zip : mg "zip" = none
  n_enumerate : mg "enumerate" = none
/-! ### heaps -/
theorem same_upd {H : Hp} {p : Addr} {o : HO} (h : H p = none) : Same H (upd H p o) := fun b x e => by
  rw [upd_ne (ne_of_none e h)]
  exact e
/-- an object that H does not know may change -/
theorem same_mut {H H' : Hp} {p : Addr} {o : HO} (e : Same H H') (h : H p = none) : Same H (upd H' p o) := fun a u ha => by
  rw [upd_ne (ne_of_none ha h)]
  exact e a u ha
theorem same_rd {H H' : Hp} {a : Addr} {u : HO} (e : Same H H') (h : Rd H a u) : Rd H' a u := by
  rcases h with h | ⟨o, h⟩
  · exact Or.inl (e a _ h)
  · exact Or.inr ⟨o, e a _ h⟩
theorem same_t {K : PySem.W.Frag} {H H' : Hp} {a : Addr} {xs : List V} (e : Same H H') (h : SqT K H a xs) : SqT K H' a xs := by
  rcases h with h | h
  · exact Or.inl (same_rd e h)
  · exact Or.inr h
theorem same_l {K : PySem.W.Frag} {H H' : Hp} {a : Addr} {xs : List V} (e : Same H H') (h : SqL K H a xs) : SqL K H' a xs := e.seq h
theorem sql {K : PySem.W.Frag} {H : Hp} {a : Addr} {xs : List V} (h : H a = some (.lst xs)) : SqL K H a xs := Or.inl (Or.inl h)
theorem sqt {K : PySem.W.Frag} {H : Hp} {a : Addr} {xs : List V} (h : H a = some (.tup xs)) : SqT K H a xs := Or.inl (Or.inl h)
theorem sz {n : Nat} (h : n ≤ 1000000) : n ≤ sizeLine := Nat.le_trans h (by decide)
theorem szl {n : Nat} (h : n < 1000000) : n < sizeLine := Nat.lt_of_lt_of_le h (by decide)
theorem sz_1 {a0 : V} : [a0].length ≤ sizeLine := by show 1 ≤ sizeLine; decide
theorem sz_2 {a0 a1 : V} : [a0, a1].length ≤ sizeLine := by show 2 ≤ sizeLine; decide
theorem sz_3 {a0 a1 a2 : V} : [a0, a1, a2].length ≤ sizeLine := by show 3 ≤ sizeLine; decide
theorem sz_4 {a0 a1 a2 a3 : V} : [a0, a1, a2, a3].length ≤ sizeLine := by show 4 ≤ sizeLine; decide
theorem sz_5 {a0 a1 a2 a3 a4 : V} : [a0, a1, a2, a3, a4].length ≤ sizeLine := by show 5 ≤ sizeLine; decide
theorem sz_6 {a0 a1 a2 a3 a4 a5 : V} : [a0, a1, a2, a3, a4, a5].length ≤ sizeLine := by show 6 ≤ sizeLine; decide
theorem sz_7 {a0 a1 a2 a3 a4 a5 a6 : V} : [a0, a1, a2, a3, a4, a5, a6].length ≤ sizeLine := by show 7 ≤ sizeLine; decide
theorem sz_8 {a0 a1 a2 a3 a4 a5 a6 a7 : V} : [a0, a1, a2, a3, a4, a5, a6, a7].length ≤ sizeLine := by show 8 ≤ sizeLine; decide
/-- all but r is as it was -/
def SameX (r : Addr) (H H' : Hp) : Prop := ∀ b o, b ≠ r → H b = some o → H' b = some o
theorem SameX.refl (r : Addr) (H : Hp) : SameX r H H := fun _ _ _ h => h
theorem SameX.trans {r : Addr} {H H1 H2 : Hp} (a : SameX r H H1) (b : SameX r H1 H2) : SameX r H H2 := fun c o n h => b c o n (a c o n h)
theorem SameX.of {r : Addr} {H H' : Hp} (a : Same H H') : SameX r H H' := fun c o _ h => a c o h
theorem SameX.upd {r : Addr} {H : Hp} {o : HO} : SameX r H (upd H r o) := fun c u n h => by
  rw [upd_ne n]
  exact h
theorem SameX.rd {r : Addr} {H H' : Hp} {a : Addr} {u : HO} (e : SameX r H H') (n : a ≠ r) (h : Rd H a u) : Rd H' a u := by
  rcases h with h | ⟨o, h⟩
  · exact Or.inl (e a _ n h)
  · exact Or.inr ⟨o, e a _ n h⟩
/-- r is a list: no tuple lies there -/
def LstAt (H : Hp) (r : Addr) : Prop := ∃ xs, H r = some (.lst xs)
theorem ne_tup {H : Hp} {a r : Addr} {xs : List V} (h : Rd H a (.tup xs)) (l : LstAt H r) : a ≠ r := by
  obtain ⟨ys, l⟩ := l
  intro e
  subst e
  rcases h with h | ⟨o, h⟩
  · rw [l] at h; cases h
  · rw [l] at h; cases h
theorem SameX.t {K : PySem.W.Frag} {r : Addr} {H H' : Hp} {a : Addr} {xs : List V} (e : SameX r H H') (l : LstAt H r) (h : SqT K H a xs) : SqT K H' a xs := by
  rcases h with h | h
  · exact Or.inl (e.rd (ne_tup h l) h)
  · exact Or.inr h
/-! ### kinds of values -/
theorem tyx_T {K : PySem.W.Frag} {H : Hp} {a : Addr} {xs : List V} (h : SqT K H a xs) : TyX K H (.ref a) (.type "tuple") := by
  rcases h with (h | ⟨o, h⟩) | ⟨o, its, n, h, c, _⟩
  · exact .base (.tup h)
  · exact .fTuple h
  · exact .kTuple h c
theorem tyx_L {K : PySem.W.Frag} {H : Hp} {a : Addr} {xs : List V} (h : SqL K H a xs) : TyX K H (.ref a) (.type "list") := by
  rcases h with (h | ⟨o, h⟩) | ⟨o, its, n, h, c, _⟩
  · exact .base (.lst h)
  · exact .base (.frz h)
  · exact .kList h c
/-! ### guessers -/
inductive G where
  | nil
  | leaf (w : Str) (ns : List Int)
  | b1 (a : G)
  | both (a b : G)
  | b3 (a b c : G)
def IsG (K : PySem.W.Frag) (H : Hp) : G → V → Prop
  | .nil, v => ∃ p, v = .ref p ∧ SqT K H p []
  | .leaf w ns, v => ∃ p, v = .ref p ∧ SqT K H p (.str w :: ns.map V.int)
  | .b1 a, v => ∃ p x, v = .ref p ∧ SqT K H p [.str "both", x] ∧ IsG K H a x
  | .both a b, v => ∃ p x y, v = .ref p ∧ SqT K H p [.str "both", x, y] ∧ IsG K H a x ∧ IsG K H b y
  | .b3 a b c, v => ∃ p x y z, v = .ref p ∧ SqT K H p [.str "both", x, y, z] ∧ IsG K H a x ∧ IsG K H b y ∧ IsG K H c z
theorem IsG.mono {K : PySem.W.Frag} {H H' : Hp} (f : ∀ a xs, SqT K H a xs → SqT K H' a xs) : ∀ {g : G} {v : V}, IsG K H g v → IsG K H' g v
  | .nil, _, ⟨p, e, h⟩ => ⟨p, e, f _ _ h⟩
  | .leaf _ _, _, ⟨p, e, h⟩ => ⟨p, e, f _ _ h⟩
  | .b1 _, _, ⟨p, x, e, h, ha⟩ => ⟨p, x, e, f _ _ h, ha.mono f⟩
  | .both _ _, _, ⟨p, x, y, e, h, ha, hb⟩ => ⟨p, x, y, e, f _ _ h, ha.mono f, hb.mono f⟩
  | .b3 _ _ _, _, ⟨p, x, y, z, e, h, ha, hb, hc⟩ => ⟨p, x, y, z, e, f _ _ h, ha.mono f, hb.mono f, hc.mono f⟩
theorem IsG.same {K : PySem.W.Frag} {H H' : Hp} {g : G} {v : V} (h : IsG K H g v) (e : Same H H') : IsG K H' g v := h.mono fun _ _ => same_t e
theorem IsG.sameX {K : PySem.W.Frag} {H H' : Hp} {g : G} {v : V} {r : Addr} (h : IsG K H g v) (e : SameX r H H') (l : LstAt H r) : IsG K H' g v := h.mono fun _ _ => e.t l
/-- a word's length; how great its number may be -/
def sortsL : List (Str × Int) := [("none", 1), ("next", 2), ("stride", 2), ("pairs", 2), ("both", 3)]
def mostL : List (Str × Int) := [("next", 3), ("stride", 3), ("pairs", 2)]
/-- the words of the leaves are not both -/
def WfG : G → Prop
  | .nil => True
  | .leaf s _ => s ≠ ("both" : Str)
  | .b1 a => WfG a
  | .both a b => WfG a ∧ WfG b
  | .b3 a b c => WfG a ∧ WfG b ∧ WfG c
def numOk (s : Str) : List Int → Bool
  | [] => false
  | n :: _ => (match mostL.lookup s with
    | some m => decide (1 ≤ n) && decide (n ≤ m)
    | none => false)
/-- what is_guesser tells -/
def isG : Nat → G → Bool
  | _, .nil => false
  | w, .leaf s ns => (match sortsL.lookup s with
      | none => false
      | some k => decide (((ns.length : Nat) : Int) + 1 = k) && decide (w ≤ 3) && (decide (s = "none") || numOk s ns))
  | _, .b1 _ => false
  | w, .both a b => decide (w ≤ 3) && (isG (w + 1) a && isG (w + 1) b)
  | _, .b3 _ _ _ => false
/-- a guesser, w bothes left -/
def good : Nat → G → Bool
  | _, .nil => false
  | _, .leaf w ns => decide (w = "none" ∧ ns = []) || (match ns with
      | [n] => decide ((w = "next" ∧ 1 ≤ n ∧ n ≤ 3) ∨ (w = "stride" ∧ 1 ≤ n ∧ n ≤ 3) ∨ (w = "pairs" ∧ 1 ≤ n ∧ n ≤ 2))
      | _ => false)
  | _, .b1 _ => false
  | 0, .both _ _ => false
  | n + 1, .both a b => good n a && good n b
  | _, .b3 _ _ _ => false
/-! ### what the law draws from -/
/-- tuples and known things stay -/
structure Imm (H H' : Hp) : Prop where
  tup : ∀ b xs, H b = some (.tup xs) → H' b = some (.tup xs)
  frz : ∀ b o u, H b = some (.frz o u) → H' b = some (.frz o u)
theorem Imm.refl (H : Hp) : Imm H H := ⟨fun _ _ h => h, fun _ _ _ h => h⟩
theorem Imm.trans {H H1 H2 : Hp} (a : Imm H H1) (b : Imm H1 H2) : Imm H H2 := ⟨fun c xs h => b.tup c xs (a.tup c xs h), fun c o u h => b.frz c o u (a.frz c o u h)⟩
theorem Imm.same {H H' : Hp} (e : Same H H') : Imm H H' := ⟨fun c xs h => e c _ h, fun c o u h => e c _ h⟩
theorem Imm.sameX {r : Addr} {H H' : Hp} (e : SameX r H H') (l : LstAt H r) : Imm H H' := by
  obtain ⟨ys, l⟩ := l
  exact ⟨fun c xs h => e c _ (fun z => by subst z; rw [l] at h; cases h) h, fun c o u h => e c _ (fun z => by subst z; rw [l] at h; cases h) h⟩
theorem Imm.upd {r : Addr} {H : Hp} {o : HO} (l : LstAt H r) : Imm H (upd H r o) := Imm.sameX SameX.upd l
theorem Imm.t {K : PySem.W.Frag} {H H' : Hp} {a : Addr} {xs : List V} (e : Imm H H') (h : SqT K H a xs) : SqT K H' a xs := by
  rcases h with (h | ⟨o, h⟩) | h
  · exact .inl (.inl (e.tup _ _ h))
  · exact .inl (.inr ⟨o, e.frz _ _ _ h⟩)
  · exact .inr h
theorem IsG.imm {K : PySem.W.Frag} {H H' : Hp} {g : G} {v : V} (h : IsG K H g v) (e : Imm H H') : IsG K H' g v := h.mono fun _ _ => e.t
/-- the script: known to the object, or of the module -/
def Sc (K : PySem.W.Frag) (H : Hp) (a : Addr) (xs : List V) : Prop := (∃ o, H a = some (.frz o (.lst xs))) ∨
    ∃ (o : Obj) (its : Array Value) (n : Nat), K.lookup a = some o ∧ o.cls = .type "list" ∧ o.dict = none ∧ o.data = .seq its n ∧ its.size ≤ sizeLine ∧ Vals xs its.toList
theorem Sc.sql {K : PySem.W.Frag} {H : Hp} {a : Addr} {xs : List V} (h : Sc K H a xs) : SqL K H a xs := by
  rcases h with h | h
  · exact .inl (.inr h)
  · exact .inr h
theorem Sc.imm {K : PySem.W.Frag} {H H' : Hp} {a : Addr} {xs : List V} (h : Sc K H a xs) (e : Imm H H') : Sc K H' a xs := by
  rcases h with ⟨o, h⟩ | h
  · exact .inl ⟨o, e.frz _ _ _ h⟩
  · exact .inr h
theorem Sc.of {K : PySem.W.Frag} {H : Hp} {a : Addr} {xs : List V} (O : Only H) (h : SqL K H a xs) : Sc K H a xs := by
  rcases h with (h | h) | h
  · rcases O a with z | ⟨o, ys, z⟩
    · rw [z] at h; cases h
    · rw [z] at h; cases h
  · exact .inl h
  · exact .inr h
/-- the law's row: the script, the next place, the mixed number -/
def Row (K : PySem.W.Frag) (H : Hp) (r : Addr) : Prop := ∃ (sc : Addr) (ns : List Int) (i s : Int), H r = some (.lst [.ref sc, .int i, .int s]) ∧ Sc K H sc (ns.map V.int) ∧ 0 ≤ i
theorem Row.at_ {K : PySem.W.Frag} {H : Hp} {r : Addr} (h : Row K H r) : LstAt H r := by
  obtain ⟨sc, ns, i, s, h, _⟩ := h
  exact ⟨_, h⟩
theorem Row.imm {K : PySem.W.Frag} {H H' : Hp} {r : Addr} (h : Row K H r) (e : Imm H H') (er : H' r = H r) : Row K H' r := by
  obtain ⟨sc, ns, i, s, h, hs, h0⟩ := h
  exact ⟨sc, ns, i, s, er.trans h, hs.imm e, h0⟩
theorem Row.same {K : PySem.W.Frag} {H H' : Hp} {r : Addr} (h : Row K H r) (e : Same H H') : Row K H' r := by
  obtain ⟨sc, ns, i, s, h, hs, h0⟩ := h
  exact ⟨sc, ns, i, s, e _ _ h, hs.imm (Imm.same e), h0⟩
theorem Row.upd {K : PySem.W.Frag} {H : Hp} {r D : Addr} {o : HO} (h : Row K H r) (l : LstAt H D) (n : D ≠ r) : Row K (upd H D o) r := h.imm (Imm.upd l) (upd_ne n.symm)
/-- what a draw promises -/
def spTaken (K : PySem.W.Frag) : Sp := fun vs H Q _ => ∃ (r : Addr) (m : Int), vs = [.ref r, .int m] ∧ Row K H r ∧ 0 < m ∧
  ∀ (x : Int) H', 0 ≤ x → x < m → SameX r H H' → Row K H' r → Q (.int x) H'
end St
namespace St
open PySem PySem.Spec PyProof.Rows L2
/-- the law's own guessers: within w others -/
def spGuesser (K : PySem.W.Frag) (n : Nat) : Sp := fun vs H Q _ => ∃ (r : Addr) (w : Nat), vs = [.ref r, .int (w : Int)] ∧ w < n ∧ Row K H r ∧
  ∀ (g : G) (v : V) H', SameX r H H' → Row K H' r → IsG K H' g v → good w g = true → Q v H'
theorem fn_zero {P : Program} {w : World} {K : PySem.W.Frag} {mg : Str → Option Value} {base : Heap} {CX : CXT} {k : Nat} {f : Addr} {fd : FuncData} {ps : List Str} {sp : Sp} (no : ∀ vs H Q E, ¬ sp vs H Q E) : FnOk P w K mg base CX k f fd ps sp :=
  ⟨fun vs H Q E h => absurd h (no vs H Q E), fun A outer s H args us vs Q E _ _ _ _ h => absurd h (no vs H Q E)⟩
theorem good_none (w : Nat) : good w (.leaf "none" []) = true := by unfold good; simp
theorem good_next {w : Nat} {n : Int} (h1 : 1 ≤ n) (h2 : n ≤ 3) : good w (.leaf "next" [n]) = true := by unfold good; simp [h1, h2]
theorem good_stride {w : Nat} {n : Int} (h1 : 1 ≤ n) (h2 : n ≤ 3) : good w (.leaf "stride" [n]) = true := by unfold good; simp [h1, h2]
theorem good_pairs {w : Nat} {n : Int} (h1 : 1 ≤ n) (h2 : n ≤ 2) : good w (.leaf "pairs" [n]) = true := by unfold good; simp [h1, h2]
end St
namespace St
open PySem PySem.Spec PyProof.Rows L2
theorem Row.nr {K : PySem.W.Frag} {H : Hp} {r p : Addr} (h : Row K H r) (np : H p = none) : p ≠ r := by
  obtain ⟨ys, hy⟩ := h.at_
  exact (ne_of_none hy np).symm
end St

/-! ### written dicts of numbers by texts -/
namespace St
open PySem PySem.Spec PyProof.Rows L2
def EntIs (p : Value × Value) (kv : Str × Int) : Prop := (∃ t, p.1 = .str kv.1 t) ∧ ∃ t, p.2 = .int kv.2 t
structure IDict (K : PySem.W.Frag) (w : World) (d : Addr) (kvs : List (Str × Int)) : Prop where
  ex : ∃ es n, KDict K w d es n ∧ Paired EntIs (es.toList.map fun e => (e.key, e.val)) kvs
theorem isStr_str (x z : Str) (t : Tok) : (Value.str x t).isStr z = (z == x) := by
  show (x == z) = (z == x)
  by_cases e : x = z
  · subst e; rfl
  · rw [beq_eq_false_iff_ne.mpr e, beq_eq_false_iff_ne.mpr (Ne.symm e)]
theorem find_ent (z : Str) : ∀ {es : List DictEntry} {kvs : List (Str × Int)}, Paired EntIs (es.map fun e => (e.key, e.val)) kvs →
    (kvs.lookup z = none ∧ es.find? (·.key.isStr z) = none ∧ es.any (·.refKey) = false) ∨ ∃ e n t, kvs.lookup z = some n ∧ es.find? (·.key.isStr z) = some e ∧ e.val = .int n t
  | [], [], .nil => .inl ⟨rfl, rfl, rfl⟩
  | e :: es, (k, n) :: kvs, .cons ⟨⟨t, h1⟩, ⟨t2, h2⟩⟩ r => by
    simp only at h1 h2
    by_cases c : z = k
    · subst c
      refine .inr ⟨e, n, t2, by simp [List.lookup], ?_, h2⟩
      rw [List.find?_cons, h1, isStr_str]
      simp
    · have c1 : (z == k) = false := beq_eq_false_iff_ne.mpr c
      rcases find_ent z r with ⟨a, b, d⟩ | ⟨e', n', t', a, b, d⟩
      · refine .inl ⟨by simp [List.lookup, c1, a], ?_, ?_⟩
        · rw [List.find?_cons, h1, isStr_str, c1]; exact b
        · rw [List.any_cons, d]
          have : e.refKey = false := by unfold DictEntry.refKey; rw [h1] <;> rfl
          rw [this]; rfl
      · refine .inr ⟨e', n', t', by simp [List.lookup, c1, a], ?_, d⟩
        rw [List.find?_cons, h1, isStr_str, c1]; exact b
theorem IDict.ns {K : PySem.W.Frag} {w : World} {d : Addr} {kvs : List (Str × Int)} (D : IDict K w d kvs) (z : Str) :
    (kvs.lookup z = none ∧ PySem.W.nsIn K d z = some none) ∨ ∃ n t, kvs.lookup z = some n ∧ PySem.W.nsIn K d z = some (some (.int n t)) := by
  obtain ⟨es, n, D, p⟩ := D.ex
  unfold PySem.W.nsIn
  rw [D.at_]
  rcases find_ent z p with ⟨a, b, c⟩ | ⟨e, n', t, a, b, c⟩
  · refine .inl ⟨a, ?_⟩
    simp only [b, c]
    rfl
  · refine .inr ⟨n', t, a, ?_⟩
    simp only [b, c]
section
variable {X : Cx} {d : Addr} {kvs : List (Str × Int)}
def rInI (d : Addr) (kvs : List (Str × Int)) : R2 := fun x y H Q => ∃ z, x = .str z ∧ y = .ref d ∧ Q (.bl (kvs.lookup z).isSome) H
def rNotInI (d : Addr) (kvs : List (Str × Int)) : R2 := fun x y H Q => ∃ z, x = .str z ∧ y = .ref d ∧ Q (.bl (!(kvs.lookup z).isSome)) H
def rIxI (d : Addr) (kvs : List (Str × Int)) : R2 := fun x y H Q => ∃ z n, x = .ref d ∧ y = .str z ∧ kvs.lookup z = some n ∧ Q (.int n) H
theorem op_in_id (D : IDict X.K X.w d kvs) : OpR X (compareOp .In) (rInI d kvs) := by
  obtain ⟨es, n, KD, _⟩ := D.ex
  intro pins s σ H x y v u Q I rx ry ⟨z, h1, h2, q⟩
  rcases D.ns z with ⟨a, b⟩ | ⟨m, t, a, b⟩
  · rw [a] at q
    exact op_in_kd KD pins s σ H x y v u Q I rx ry ⟨z, _, h1, h2, b, q⟩
  · rw [a] at q
    exact op_in_kd KD pins s σ H x y v u Q I rx ry ⟨z, _, h1, h2, b, q⟩
theorem op_notIn_id (D : IDict X.K X.w d kvs) : OpR X (compareOp .NotIn) (rNotInI d kvs) := by
  obtain ⟨es, n, KD, _⟩ := D.ex
  intro pins s σ H x y v u Q I rx ry ⟨z, h1, h2, q⟩
  rcases D.ns z with ⟨a, b⟩ | ⟨m, t, a, b⟩
  · rw [a] at q
    exact op_notIn_kd KD pins s σ H x y v u Q I rx ry ⟨z, _, h1, h2, b, q⟩
  · rw [a] at q
    exact op_notIn_kd KD pins s σ H x y v u Q I rx ry ⟨z, _, h1, h2, b, q⟩
theorem ix_id (D : IDict X.K X.w d kvs) : IxR X (rIxI d kvs) := by
  obtain ⟨es, nn, KD, _⟩ := D.ex
  intro value slice pins s σ H x y v u Q I rx ry ⟨z, m, h1, h2, h3, q⟩ hs
  rcases D.ns z with ⟨a, b⟩ | ⟨m', t, a, b⟩
  · rw [a] at h3; cases h3
  · rw [a] at h3; cases h3
    exact ix_kdict value slice pins s σ H x y v u Q I rx ry ⟨d, z, .int m, h1, h2, ⟨es, nn, _, KD.at_, KD.lit, b, ⟨t, rfl⟩⟩, q⟩ hs
end
theorem iteY {c A B : Prop} [Decidable c] (h : c) (a : A) : if c then A else B := by rw [if_pos h]; exact a
theorem iteN {c A B : Prop} [Decidable c] (h : ¬ c) (b : B) : if c then A else B := by rw [if_neg h]; exact b
theorem iteB {b : Bool} {A B : Prop} (e : b = true) (a : A) : if b = true then A else B := by rw [if_pos e]; exact a
theorem iteB0 {b : Bool} {A B : Prop} (e : b = false) (a : B) : if b = true then A else B := by rw [e, if_neg Bool.false_ne_true]; exact a
/-- the guessers' tables -/
structure Tab (K : PySem.W.Frag) (w : World) (mg : Str → Option Value) (dS dM : Addr) : Prop where
  g_SORTS : mg "SORTS" = some (.ref dS)
  i_SORTS : IDict K w dS sortsL
  g_MOST_OF : mg "MOST_OF" = some (.ref dM)
  i_MOST_OF : IDict K w dM mostL
  g_MOST_WITHIN : ∃ t, mg "MOST_WITHIN" = some (.int 3 t)
def spIs (K : PySem.W.Frag) (n : Nat) : Sp := fun vs H Q _ => ∃ (v : V) (g : G) (w : Nat), vs = [v, .int (w : Int)] ∧ IsG K H g v ∧ WfG g ∧ w ≤ 4 ∧ 5 ≤ w + n ∧ ∀ H', Same H H' → Q (.bl (isG w g)) H'
end St
namespace St
open PySem PySem.Spec PyProof.Rows L2
section
variable {X : Cx}
theorem pe_gref {x : Str} {a : Addr} {pos : Pos} (hg : Gl X x) (hm : X.mg x = some (.ref a)) (hd : (x == ("__debug__" : Str)) = false := by decide) : PE X (.Name x pos) (tC (.ref a)) := pe_glob hg hm (v := .ref a) rfl hd
theorem pe_gint {x : Str} {i : Int} {pos : Pos} (hg : Gl X x) (hm : ∃ t, X.mg x = some (.int i t)) (hd : (x == ("__debug__" : Str)) = false := by decide) : PE X (.Name x pos) (tC (.int i)) := by
  obtain ⟨t, hm⟩ := hm
  exact pe_glob hg hm (v := .int i) ⟨t, rfl⟩ hd
theorem pe_gstr {x : Str} {i : Str} {pos : Pos} (hg : Gl X x) (hm : ∃ t, X.mg x = some (.str i t)) (hd : (x == ("__debug__" : Str)) = false := by decide) : PE X (.Name x pos) (tC (.str i)) := by
  obtain ⟨t, hm⟩ := hm
  exact pe_glob hg hm (v := .str i) ⟨t, rfl⟩ hd
end
end St
namespace St
open PySem PySem.Spec PyProof.Rows L2
theorem sorts_cases {z : Str} {k : Int} (h : sortsL.lookup z = some k) : (z = "none" ∧ k = 1) ∨ (z = "next" ∧ k = 2) ∨ (z = "stride" ∧ k = 2) ∨ (z = "pairs" ∧ k = 2) ∨ (z = "both" ∧ k = 3) := by
  unfold sortsL at h
  simp only [List.lookup] at h
  repeat' split at h
  all_goals first | (cases h; done) | skip
  all_goals (rename_i e; have e' := eq_of_beq e; cases h; simp [e'])
theorem sorts_most {z : Str} {k : Int} (h : sortsL.lookup z = some k) (h1 : z ≠ ("none" : Str)) (h2 : z ≠ ("both" : Str)) : k = 2 ∧ ∃ m, mostL.lookup z = some m := by
  rcases sorts_cases h with ⟨e, _⟩ | ⟨rfl, e⟩ | ⟨rfl, e⟩ | ⟨rfl, e⟩ | ⟨e, _⟩
  · exact absurd e h1
  · exact ⟨e, 3, rfl⟩
  · exact ⟨e, 3, rfl⟩
  · exact ⟨e, 2, rfl⟩
  · exact absurd e h2
end St
/-! ### data of any depth -/
namespace St
open PySem PySem.Spec PyProof.Rows L2
theorem dmono {K : PySem.W.Frag} {H H' : Hp} (fL : ∀ a xs, SqL K H a xs → SqL K H' a xs) (fT : ∀ a xs, SqT K H a xs → SqT K H' a xs) {v : V} {d : PyData} (h : Dp K H v d) : Dp K H' v d := by
  refine Dp.rec (motive_1 := fun v d _ => Dp K H' v d) (motive_2 := fun vs ds _ => DpAll K H' vs ds) ?_ ?_ ?_ ?_ ?_ ?_ ?_ ?_ h
  · exact .non
  · exact fun b => .bl b
  · exact fun i => .int i
  · exact fun x => .str x
  · exact fun h _ ih => .lst (fL _ _ h) ih
  · exact fun h _ ih => .tup (fT _ _ h) ih
  · exact .nil
  · exact fun _ _ a b => .cons a b
theorem dsame {K : PySem.W.Frag} {H H' : Hp} {v : V} {d : PyData} (h : Dp K H v d) (e : Same H H') : Dp K H' v d := dmono (fun _ _ => same_l e) (fun _ _ => same_t e) h
theorem dsameA {K : PySem.W.Frag} {H H' : Hp} (e : Same H H') : ∀ {vs : List V} {ds : List PyData}, DpAll K H vs ds → DpAll K H' vs ds
  | _, _, .nil => .nil
  | _, _, .cons a b => .cons (dsame a e) (dsameA e b)
theorem dlen {K : PySem.W.Frag} {H : Hp} : ∀ {vs : List V} {ds : List PyData}, DpAll K H vs ds → vs.length = ds.length
  | _, _, .nil => rfl
  | _, _, .cons _ b => congrArg (· + 1) (dlen b)
theorem dat {K : PySem.W.Frag} {H : Hp} : ∀ {vs : List V} {ds : List PyData} {i : Nat} {d : PyData}, DpAll K H vs ds → ds[i]? = some d → ∃ v, vs[i]? = some v ∧ Dp K H v d
  | _, _, 0, _, .cons a _, e => ⟨_, rfl, by cases Option.some.inj e; exact a⟩
  | _, _, i + 1, _, .cons _ b, e => dat (i := i) b e
/-- how deep -/
def dep : Nat → PyData → Prop
  | 0, _ => False
  | n + 1, .list ds => ds.length ≤ 100000 ∧ ∀ d ∈ ds, dep n d
  | n + 1, .tuple ds => ds.length ≤ 100000 ∧ ∀ d ∈ ds, dep n d
  | _ + 1, _ => True
def spAlike (K : PySem.W.Frag) (n : Nat) : Sp := fun vs H Q _ => ∃ (v1 v2 : V) (d : PyData), vs = [v1, v2] ∧ Dp K H v1 d ∧ Dp K H v2 d ∧ dep n d ∧ ∀ H', Same H H' → Q (.bl true) H'
theorem tup_list {K : PySem.W.Frag} {T : String} (h : T = "tuple" ∨ T = "list") : PySem.W.kitAny K (.type T) [.type "tuple", .type "list"] = some true := by
  rcases h with rfl | rfl
  · exact kitAny_cons (kit_ty (r := true) (by decide +kernel)) (fun h => nomatch h) fun _ => rfl
  · exact kitAny_cons (kit_ty (r := false) (by decide +kernel)) (fun _ => kitAny_cons (kit_ty (r := true) (by decide +kernel)) (fun h => nomatch h) fun _ => rfl) fun h => nomatch h
end St
/-! ### rules for within a comprehension: the frag is told -/
namespace St
open PySem PySem.Spec PyProof.Rows L2
section
variable {X : Cx} {K : PySem.W.Frag}
theorem ix_listK (h : X.K = K := by rfl) : IxR X (rIxL K) := h ▸ ix_list
theorem ix_tupK (h : X.K = K := by rfl) : IxR X (rIxT K) := h ▸ ix_tup
theorem ix_seqK (h : X.K = K := by rfl) : IxR X (rIx K) := h ▸ ix_seq
def rLen (K : PySem.W.Frag) : List V → Hp → VK → Prop := fun xs H Q => ∃ p ys, xs = [.ref p] ∧ (SqL K H p ys ∨ SqT K H p ys) ∧ Q (.int ys.length) H
theorem call_lenK (h : X.K = K := by rfl) : CallR X (.builtin "len") (rLen K) := h ▸ call_len_seq
theorem in_seqK (h : X.K = K := by rfl) : OpR X (compareOp .In) (rIn K false) := h ▸ op_in_seq
theorem notIn_seqK (h : X.K = K := by rfl) : OpR X (compareOp .NotIn) (rIn K true) := h ▸ op_notIn_seq
end
end St

local macro_rules
  | `(tactic| infer_instance) => `(tactic| first
    | assumption
    | exact L2.upd_same
    | (refine St.same_upd (by assumption) _ _ ?_; infer_instance)
    | (refine (show L2.Same _ _ by assumption) _ _ ?_; infer_instance)
    | (refine (show St.SameX _ _ _ by assumption) _ _ (by assumption) ?_; infer_instance)
    | (refine Or.inl (Or.inl ?_); infer_instance))
local macro_rules
  | `(tactic| and_intros) => `(tactic| repeat (first
    | refine ⟨_, rfl, ?_⟩
    | refine ⟨rfl, ?_⟩
    | refine ⟨_, _, rfl, rfl, ?_⟩
    | refine ⟨_, _, _, _, rfl, rfl, (by infer_instance), (by first | rfl | exact L2.atI_nat (j := 0) rfl | exact L2.atI_nat (j := 1) rfl | exact L2.atI_nat (j := 2) rfl), ?_⟩
    | refine ⟨_, _, rfl, (by first | (refine Or.inl ?_; infer_instance) | (refine Or.inr ?_; infer_instance)), ?_⟩
    | refine ⟨_, _, rfl, (show L2.SqL _ _ _ _ by infer_instance), ?_⟩
    | refine ⟨_, _, _, _, true, rfl, L2.ClsV.ty _, (by assumption), L2.kit_ty (by decide +kernel), ?_⟩
    | refine ⟨_, _, _, _, false, rfl, L2.ClsV.ty _, (by assumption), L2.kit_ty (by decide +kernel), ?_⟩
    | refine And.intro (by first | decide | with_reducible exact St.sz_1 | with_reducible exact St.sz_2 | with_reducible exact St.sz_3 | with_reducible exact St.sz_4 | with_reducible exact St.sz_5 | with_reducible exact St.sz_6 | with_reducible exact St.sz_7 | with_reducible exact St.sz_8 | assumption | omega | (refine Or.inr ?_; decide) | (show (_ : Int) < _; first | decide | assumption | omega) | exact Or.inr ⟨by decide, by decide⟩ | exact ⟨by decide, by decide⟩) ?_))
local macro_rules
  | `(tactic| ac_rfl) => `(tactic| first
    | assumption
    | exact L2.Same.refl _
    | exact St.SameX.refl _ _
    | (refine L2.Same.trans ?_ (St.same_upd (by assumption)); ac_rfl)
    | (refine St.SameX.trans ?_ (St.SameX.of (St.same_upd (by assumption))); ac_rfl)
    | (refine L2.Same.trans ?_ (show L2.Same _ _ by assumption); ac_rfl)
    | (refine St.SameX.trans ?_ (St.SameX.of (show L2.Same _ _ by assumption)); ac_rfl)
    | (refine St.SameX.trans ?_ (show St.SameX _ _ _ by assumption); ac_rfl))

namespace St
open PySem PySem.Spec PyProof.Rows L2
def topS (i : Nat) : Stmt := PySem.Challenge.pw_stridewell_k11_whole_one_stride_througho.main.body.getD i (.Pass ⟨0, 0, 0, 0⟩)
end St

namespace St
open PySem PySem.Spec PyProof.Rows L2
abbrev s_is_guesser : Stmt := topS 9
abbrev N_is_guesser : List Str := ["guesser", "within"]
abbrev p_is_guesser : List Str := ["guesser", "within"]
theorem sc_is_guesser : FnScope N_is_guesser p_is_guesser (defScope s_is_guesser) := ⟨rfl, rfl, rfl, by decide +kernel, rfl, by decide +kernel, by decide +kernel⟩
abbrev s_need_guesser : Stmt := topS 10
abbrev N_need_guesser : List Str := ["guesser"]
abbrev p_need_guesser : List Str := ["guesser"]
theorem sc_need_guesser : FnScope N_need_guesser p_need_guesser (defScope s_need_guesser) := ⟨rfl, rfl, rfl, by decide +kernel, rfl, by decide +kernel, by decide +kernel⟩
section
variable {P : Program} {w : World} {K : PySem.W.Frag} {mg : Str → Option Value} {base : Heap} {f dS dM : Addr} {fd : FuncData}
theorem ok_is_guesser (T : Nms mg) (B : Tab K w mg dS dM) (D_is_guesser : Df K mg "is_guesser" s_is_guesser p_is_guesser f fd) : ∀ n : Nat, FnOk P w K mg base CX0 n f fd p_is_guesser (spIs K n)
  | 0 => fn_zero fun vs H Q E ⟨v, g, w, _, _, _, h, h2, _⟩ => by omega
  | n + 1 => by
    have G_is_guesser := ok_is_guesser T B D_is_guesser n
    refine D_is_guesser.F.ok sc_is_guesser (fun vs H Q E h => ?_) (fun cdv A outer s H vs Q E hr h => ?_)
    · obtain ⟨r, m, wi, rfl, _⟩ := h
      rfl
    obtain ⟨v, g, m, rfl, hG, hW, h4, h5, q⟩ := h
    refine ⟨_, (pss_cons (ps_if (PW.pt (pw_or (pt_cmpR op_eq (pe_callB call_len_seq (by rfl) T.n_len (by decide +kernel) (pa_cons (pv 0) pa_nil)) pe_int (nomark _)) (pw_or (pt_cmpR (op_notIn_id B.i_SORTS) (pe_ix ix_tup (pv 0) pe_int (fun _ _ => rfl)) (pe_gref (by rfl) B.g_SORTS) (by with_unfolding_all rfl)) (pw_or (pt_cmpR op_ne (pe_callB call_len_seq (by rfl) T.n_len (by decide +kernel) (pa_cons (pv 0) pa_nil)) (pe_ix (ix_id B.i_SORTS) (pe_gref (by rfl) B.g_SORTS) (pe_ix ix_tup (pv 0) pe_int (fun _ _ => rfl)) (fun _ _ => rfl)) (nomark _)) (pw_or1 (pt_cmpR op_gt (pv 1) (pe_gint (by rfl) B.g_MOST_WITHIN) (nomark _)))))))
    (pss_one (ps_ret pe_bl))
    (pss_nil))
  (pss_cons (ps_if (pt_cmpR op_eq (pe_ix ix_tup (pv 0) pe_int (fun _ _ => rfl)) pe_str (nomark _))
    (pss_one (ps_ret (pe_and (pe_call G_is_guesser (hr.mono (by first | decide | omega)) (by rfl) D_is_guesser.m D_is_guesser.F.kp D_is_guesser.b .nil pass0 (pa_cons (pe_ix ix_tup (pv 0) pe_int (fun _ _ => rfl)) (pa_cons (pe_op op_add (pv 1) pe_int) pa_nil))) (pe_one (pe_call G_is_guesser (hr.mono (by first | decide | omega)) (by rfl) D_is_guesser.m D_is_guesser.F.kp D_is_guesser.b .nil pass0 (pa_cons (pe_ix ix_tup (pv 0) pe_int (fun _ _ => rfl)) (pa_cons (pe_op op_add (pv 1) pe_int) pa_nil)))))))
    (pss_nil))
  (pss_one (ps_ret (pe_or (pe_cmpR op_eq (pe_ix ix_tup (pv 0) pe_int (fun _ _ => rfl)) pe_str (nomark _)) (pe_one (pe_chain op_le op_le pe_int (pe_ix ix_tup (pv 0) pe_int (fun _ _ => rfl)) (pe_ix (ix_id B.i_MOST_OF) (pe_gref (by rfl) B.g_MOST_OF) (pe_ix ix_tup (pv 0) pe_int (fun _ _ => rfl)) (fun _ _ => rfl))))))))), ?_⟩
    cases g with
    | nil =>
      obtain ⟨p, rfl, hp⟩ := hG
      and_intros
      refine iteB (b := decide _) (decide_eq_true rfl) ?_
      exact q _ (Same.refl _)
    | leaf z ns =>
      obtain ⟨p, rfl, hp⟩ := hG
      have ez : ((.str z :: ns.map V.int : List V).length : Int) = (ns.length : Int) + 1 := by rw [List.length_cons, List.length_map]; rfl
      and_intros
      cases e : sortsL.lookup z with
      | none =>
        refine iteB rfl ?_
        refine iteB rfl ?_
        have q' := q H (Same.refl _)
        unfold isG at q'
        rw [e] at q'
        exact q'
      | some k =>
        refine iteB0 rfl ?_
        and_intros
        refine ⟨z, k, rfl, rfl, e, ?_⟩
        and_intros
        have q' : ∀ H', Same H H' → Q (V.bl (decide (((ns.length : Nat) : Int) + 1 = k) && decide (m ≤ 3) && (decide (z = "none") || numOk z ns))) H' := fun H' s => by
          have q' := q H' s
          unfold isG at q'
          rw [e] at q'
          exact q'
        by_cases c1 : ((ns.length : Nat) : Int) + 1 = k
        · rw [decide_eq_true c1] at q'
          refine iteB0 (by rw [ez, decide_eq_true (congrArg V.int c1)]; rfl) ?_
          and_intros
          by_cases c2 : m ≤ 3
          · rw [decide_eq_true c2] at q'
            refine iteB0 (decide_eq_false (by omega)) ?_
            and_intros
            refine iteB0 (decide_eq_false fun x => hW (V.str.inj x)) ?_
            and_intros
            by_cases c3 : z = "none"
            · rw [decide_eq_true c3] at q'
              refine iteB (decide_eq_true (congrArg V.str c3)) ?_
              exact q' _ (Same.refl _)
            · rw [decide_eq_false c3] at q'
              refine iteB0 (decide_eq_false fun x => c3 (V.str.inj x)) ?_
              obtain ⟨k2, mo, em⟩ := sorts_most e c3 hW
              obtain ⟨x, rfl⟩ : ∃ x, ns = [x] := by
                cases ns with
                | nil => rw [List.length_nil] at c1; omega
                | cons x r =>
                  cases r with
                  | nil => exact ⟨x, rfl⟩
                  | cons y r => rw [List.length_cons, List.length_cons] at c1; omega
              have eo : numOk z [x] = (decide (1 ≤ x) && decide (x ≤ mo)) := by unfold numOk; rw [em]
              rw [eo] at q'
              and_intros
              by_cases c4 : 1 ≤ x
              · refine iteB (decide_eq_true c4) ?_
                rw [decide_eq_true c4] at q'
                and_intros
                refine ⟨_, _, rfl, rfl, em, ?_⟩
                and_intros
                exact q' _ (Same.refl _)
              · refine iteB0 (decide_eq_false c4) ?_
                rw [decide_eq_false c4] at q'
                exact q' _ (Same.refl _)
          · rw [decide_eq_false c2] at q'
            refine iteB (decide_eq_true (by omega)) ?_
            exact q' _ (Same.refl _)
        · rw [decide_eq_false c1] at q'
          refine iteB (by rw [ez, decide_eq_false (fun e => c1 (V.int.inj e))]; rfl) ?_
          refine iteB rfl ?_
          exact q' _ (Same.refl _)
    | b1 a =>
      obtain ⟨p, x, rfl, hp, ha⟩ := hG
      and_intros
      refine ⟨_, 3, rfl, rfl, rfl, ?_⟩
      and_intros
      exact q _ (Same.refl _)
    | b3 a b c =>
      obtain ⟨p, x, y, z, rfl, hp, ha⟩ := hG
      and_intros
      refine ⟨_, 3, rfl, rfl, rfl, ?_⟩
      and_intros
      exact q _ (Same.refl _)
    | both a b =>
      obtain ⟨p, x, y, rfl, hp, ha, hb⟩ := hG
      and_intros
      refine ⟨_, 3, rfl, rfl, rfl, ?_⟩
      and_intros
      have q' : ∀ H', Same H H' → Q (V.bl (decide (m ≤ 3) && (isG (m + 1) a && isG (m + 1) b))) H' := q
      by_cases c2 : m ≤ 3
      · rw [decide_eq_true c2] at q'
        refine iteB0 (decide_eq_false (by omega)) ?_
        and_intros
        have ek : ∀ z : V, ([z, V.int ((m : Int) + 1)] : List V) = [z, V.int ((m + 1 : Nat) : Int)] := fun z => congrArg (fun i : Int => [z, V.int i]) (by omega)
        refine ⟨x, a, m + 1, ek _, ha, hW.1, by omega, by omega, fun H1 s1 => ?_⟩
        refine ⟨_, rfl, ?_⟩
        cases ea : isG (m + 1) a with
        | false =>
          refine iteN Bool.false_ne_true ?_
          rw [ea] at q'
          exact q' _ s1
        | true =>
          refine iteY rfl ?_
          rw [ea] at q'
          have hp1 := same_t s1 hp
          and_intros
          refine ⟨y, b, m + 1, ek _, hb.same s1, hW.2, by omega, by omega, fun H2 s2 => ?_⟩
          exact q' _ (s1.trans s2)
      · rw [decide_eq_false c2] at q'
        refine iteB (decide_eq_true (by omega)) ?_
        exact q' _ (Same.refl _)
theorem isG_good : ∀ (k : Nat) (g : G), good k g = true → k ≤ 3 → isG (3 - k) g = true ∧ WfG g
  | _, .nil, h, _ => by simp [good] at h
  | _, .b1 _, h, _ => by simp [good] at h
  | _, .b3 _ _ _, h, _ => by simp [good] at h
  | 0, .both _ _, h, _ => by simp [good] at h
  | k + 1, .both a b, h, hk => by
    have h' : (good k a && good k b) = true := h
    rw [Bool.and_eq_true] at h'
    have ha := isG_good k a h'.1 (by omega)
    have hb := isG_good k b h'.2 (by omega)
    have e : 3 - (k + 1) + 1 = 3 - k := by omega
    refine ⟨?_, ha.2, hb.2⟩
    show (decide (3 - (k + 1) ≤ 3) && (isG (3 - (k + 1) + 1) a && isG (3 - (k + 1) + 1) b)) = true
    rw [e, ha.1, hb.1, decide_eq_true (by omega)]
    rfl
  | k, .leaf w ns, h, _ => by
    unfold good at h
    rw [Bool.or_eq_true] at h
    rcases h with h | h
    · obtain ⟨rfl, rfl⟩ := of_decide_eq_true h
      refine ⟨?_, by show ("none" : Str) ≠ "both"; decide⟩
      show ((decide ((((0 : Nat)) : Int) + 1 = 1) && decide (3 - k ≤ 3)) && (decide (("none" : Str) = "none") || numOk "none" [])) = true
      rw [decide_eq_true (by omega : 3 - k ≤ 3)]
      rfl
    · cases ns with
      | nil => simp at h
      | cons n r =>
        cases r with
        | cons _ _ => simp at h
        | nil =>
          have h' := of_decide_eq_true h
          rcases h' with ⟨rfl, h1, h2⟩ | ⟨rfl, h1, h2⟩ | ⟨rfl, h1, h2⟩
          · refine ⟨?_, by show ("next" : Str) ≠ "both"; decide⟩
            show ((decide ((((1 : Nat)) : Int) + 1 = 2) && decide (3 - k ≤ 3)) && (decide (("next" : Str) = "none") || (decide (1 ≤ n) && decide (n ≤ 3)))) = true
            rw [decide_eq_true (by omega : 3 - k ≤ 3), decide_eq_true h1, decide_eq_true h2]
            simp
          · refine ⟨?_, by show ("stride" : Str) ≠ "both"; decide⟩
            show ((decide ((((1 : Nat)) : Int) + 1 = 2) && decide (3 - k ≤ 3)) && (decide (("stride" : Str) = "none") || (decide (1 ≤ n) && decide (n ≤ 3)))) = true
            rw [decide_eq_true (by omega : 3 - k ≤ 3), decide_eq_true h1, decide_eq_true h2]
            simp
          · refine ⟨?_, by show ("pairs" : Str) ≠ "both"; decide⟩
            show ((decide ((((1 : Nat)) : Int) + 1 = 2) && decide (3 - k ≤ 3)) && (decide (("pairs" : Str) = "none") || (decide (1 ≤ n) && decide (n ≤ 2)))) = true
            rw [decide_eq_true (by omega : 3 - k ≤ 3), decide_eq_true h1, decide_eq_true h2]
            simp
/-- of a good guesser nothing is refused -/
def spNeedG (K : PySem.W.Frag) : Sp := fun vs H Q _ => ∃ (v : V) (g : G), vs = [v] ∧ IsG K H g v ∧ good 3 g = true ∧ ∀ H', Same H H' → Q .non H'
theorem ok_need_guesser {f2 : Addr} {fd2 : FuncData} (T : Nms mg) (B : Tab K w mg dS dM) (D_is_guesser : Df K mg "is_guesser" s_is_guesser p_is_guesser f fd) (D_need_guesser : Df K mg "need_guesser" s_need_guesser p_need_guesser f2 fd2) : FnOk P w K mg base CX0 6 f2 fd2 p_need_guesser (spNeedG K) := by
  have G_is_guesser : FnOk P w K mg base CX0 5 f fd p_is_guesser (spIs K 5) := ok_is_guesser T B D_is_guesser 5
  refine D_need_guesser.F.ok sc_need_guesser (fun vs H Q E h => ?_) (fun cdv A outer s H vs Q E hr h => ?_)
  · obtain ⟨r, m, rfl, _⟩ := h
    rfl
  obtain ⟨v, g, rfl, hG, hg, q⟩ := h
  obtain ⟨hi, hW⟩ := isG_good 3 g hg (Nat.le_refl _)
  refine ⟨_, (pss_one (ps_if (pt_not (pt_val (pe_call G_is_guesser (hr.mono (by first | decide | omega)) (by rfl) D_is_guesser.m D_is_guesser.F.kp D_is_guesser.b .nil pass0 (pa_cons (pv 0) (pa_cons pe_int pa_nil)))))
    (pss_one (ps_never))
    (pss_nil))), ?_⟩
  and_intros
  refine ⟨v, g, 0, rfl, hG, hW, by omega, by omega, fun H1 s1 => ?_⟩
  and_intros
  rw [show isG 0 g = true from hi]
  exact q _ s1
end
end St

namespace St
open PySem PySem.Spec PyProof.Rows L2
abbrev s__law_taken : Stmt := topS 39
abbrev N__law_taken : List Str := ["_law_row", "_law_many", "_law_cell"]
abbrev p__law_taken : List Str := ["_law_row", "_law_many"]
theorem sc__law_taken : FnScope N__law_taken p__law_taken (defScope s__law_taken) := ⟨rfl, rfl, rfl, by decide +kernel, rfl, by decide +kernel, by decide +kernel⟩
section
variable {P : Program} {w : World} {K : PySem.W.Frag} {mg : Str → Option Value} {base : Heap} {f : Addr} {fd : FuncData}
theorem ok__law_taken (F : Fun K "_law_taken" "_law_taken" s__law_taken f fd) (T : Nms mg) : FnOk P w K mg base CX0 1 f fd p__law_taken (spTaken K) := by
  refine F.ok sc__law_taken (fun vs H Q E h => ?_) (fun cdv A outer s H vs Q E hr h => ?_)
  · obtain ⟨r, m, rfl, _⟩ := h
    rfl
  obtain ⟨r, m, rfl, ⟨sc, ns, i, s, hr0, hs, h0⟩, hm, q⟩ := h
  refine ⟨_, (pss_cons (ps_asg (pe_op op_add (pe_ix ix_list (pv 0) pe_int (fun _ _ => rfl)) pe_int) (pg_sub (pv 0) pe_int set_list))
  (pss_cons (ps_if (pt_cmpR op_gt (pe_ix ix_list (pv 0) pe_int (fun _ _ => rfl)) (pe_callB call_len_seq (by rfl) T.n_len (by decide +kernel) (pa_cons (pe_ix ix_list (pv 0) pe_int (fun _ _ => rfl)) pa_nil)) (nomark _))
    (pss_cons (ps_asg (pe_op op_mod (pe_op op_add (pe_op op_mul (pe_ix ix_list (pv 0) pe_int (fun _ _ => rfl)) pe_int) pe_int) pe_int) (pg_sub (pv 0) pe_int set_list))
    (pss_one (ps_ret (pe_op op_mod (pe_op op_fdiv (pe_ix ix_list (pv 0) pe_int (fun _ _ => rfl)) pe_int) (pv 1)))))
    (pss_nil))
  (pss_cons (ps_set (i := 2) sc__law_taken.nd rfl (Or.inl rfl) (pe_ix ix_list (pe_ix ix_list (pv 0) pe_int (fun _ _ => rfl)) (pe_op op_sub (pe_ix ix_list (pv 0) pe_int (fun _ _ => rfl)) pe_int) (fun _ _ => rfl)))
  (pss_cons (ps_asg (pe_op op_mod (pe_op op_add (pe_op op_add (pe_op op_mul (pe_ix ix_list (pv 0) pe_int (fun _ _ => rfl)) pe_int) (pv 2)) pe_int) pe_int) (pg_sub (pv 0) pe_int set_list))
  (pss_one (ps_ret (pe_op op_mod (pv 2) (pv 1)))))))), ?_⟩
  have hR : SqL K H r [.ref sc, .int i, .int s] := sql hr0
  have ne : ∀ {o : HO}, Sc K (upd H r o) sc (ns.map V.int) := fun {o} => hs.imm (Imm.upd ⟨_, hr0⟩)
  have fin : ∀ (x s' : Int) (o : HO), 0 ≤ x → x < m → Q (.int x) (upd (upd H r o) r (.lst [.ref sc, .int (i + 1), .int s'])) := fun x s' o h1 h2 => by
    rw [upd_upd]
    exact q x _ h1 h2 SameX.upd ⟨sc, ns, i + 1, s', upd_same, ne, by omega⟩
  and_intros
  have hsc : SqL K (upd H r (.lst [.ref sc, .int (i + 1), .int s])) sc (ns.map V.int) := ne.sql
  and_intros
  refine ite2 (fun c => ?_) (fun c => ?_)
  · and_intros
    exact fin _ _ _ (Int.emod_nonneg _ (by omega)) (Int.emod_lt_of_pos _ hm)
  · have c' : ¬ (((ns.map V.int).length : Nat) : Int) < i + 1 := of_decide_eq_false (Bool.eq_false_iff.mpr c)
    rw [List.length_map] at c'
    and_intros
    have hat : atI (ns.map V.int) (i + 1 - 1) = some (.int (ns[i.toNat]'(by omega))) := by
      have e : i + 1 - 1 = ((i.toNat : Nat) : Int) := by omega
      rw [e]
      refine atI_nat ?_
      rw [List.getElem?_map, List.getElem?_eq_getElem (by omega)]
      rfl
    refine ⟨_, _, _, _, rfl, rfl, hsc, hat, ?_⟩
    and_intros
    exact fin _ _ _ (Int.emod_nonneg _ (by omega)) (Int.emod_lt_of_pos _ hm)
end
end St

namespace St
open PySem PySem.Spec PyProof.Rows L2
theorem eqV_int (a b : Int) : eqV (.int a) (.int b) = decide (a = b) := by
  show (a == b) = _
  exact Bool.beq_eq_decide_eq ..
theorem inV_ints (g : Int) : ∀ l : List Int, inV (.int g) (l.map V.int) = decide (g ∈ l)
  | [] => by simp [inV]
  | a :: r => by
    have ih := inV_ints g r
    unfold inV at ih ⊢
    rw [List.map_cons, List.any_cons, ih, eqV_int]
    by_cases c : a = g
    · subst c; simp
    · by_cases d : g ∈ r
      · simp [c, d]
      · simp [c, d, Ne.symm c]
theorem flat_ints : ∀ l : List Int, (l.map V.int).all flatV = true
  | [] => rfl
  | _ :: r => by rw [List.map_cons, List.all_cons, flat_ints r]; rfl
theorem at_ints {l : List Int} {i : Nat} {y : V} (h : (l.map V.int)[i]? = some y) : ∃ x, y = .int x ∧ l[i]? = some x ∧ l.take (i + 1) = l.take i ++ [x] := by
  rw [List.getElem?_map] at h
  cases e : l[i]? with
  | none => rw [e] at h; cases h
  | some m =>
    rw [e] at h
    cases Option.some.inj h
    exact ⟨m, rfl, rfl, by rw [List.take_add_one, e]; rfl⟩
theorem filter_snoc {α : Type} (f : α → Bool) (l : List α) (x : α) : (l ++ [x]).filter f = l.filter f ++ if f x then [x] else [] := by
  rw [List.filter_append, List.filter_cons]
  split <;> simp
theorem samex_mut {r : Addr} {H H' : Hp} {p : Addr} {o : HO} (e : SameX r H H') (h : H p = none) : SameX r H (upd H' p o) := fun a u n ha => by
  rw [upd_ne (ne_of_none ha h)]
  exact e a u n ha
theorem dp_ints {K : PySem.W.Frag} {H : Hp} {p : Addr} {ns : List Int} (h : SqL K H p (ns.map V.int)) : Dp K H (.ref p) (.list (ns.map PyData.int)) := by
  refine .lst h ?_
  have : ∀ l : List Int, DpAll K H (l.map V.int) (l.map PyData.int) := by
    intro l
    induction l with
    | nil => exact .nil
    | cons a r ih => exact .cons (.int a) ih
  exact this ns
theorem lay_ints (ns : List Int) : SeqAt.shaped (.list (ns.map PyData.int)) = true := by
  have h1 : ∀ l : List Int, PyData.depthAll (l.map PyData.int) = 0 := by
    intro l
    induction l with
    | nil => rfl
    | cons a r ih => simp [PyData.depthAll, PyData.depth, ih]
  have h2 : ∀ l : List Int, PyData.canLayAll0 (l.map PyData.int) = true := by
    intro l
    induction l with
    | nil => rfl
    | cons a r ih => simp [PyData.canLayAll0, PyData.canLay0, ih]
  unfold SeqAt.shaped
  rw [Bool.and_eq_true]
  refine ⟨?_, decide_eq_true ?_⟩
  · simp only [PyData.canLay0]
    exact h2 ns
  · simp only [PyData.depth]
    rw [h1 ns]
    decide
theorem eqv_ints (a b : List Int) : PyData.eqv (.list (a.map PyData.int)) (.list (b.map PyData.int)) = decide (a = b) := by
  simp only [PyData.eqv]
  induction a generalizing b with
  | nil =>
    cases b with
    | nil => simp [PyData.eqvAll]
    | cons y ys => simp [PyData.eqvAll]
  | cons x xs ih =>
    cases b with
    | nil => simp [PyData.eqvAll]
    | cons y ys =>
      simp only [List.map_cons, PyData.eqvAll, PyData.eqv, ih ys, Bool.beq_eq_decide_eq]
      by_cases c : x = y
      · subst c; simp
      · simp [c]
theorem atI_ints {ns : List Int} {x : Int} (h0 : 0 ≤ x) (h1 : x < (ns.length : Nat)) : ∃ y, atI (ns.map V.int) x = some (.int y) ∧ ns[x.toNat]? = some y := by
  obtain ⟨k, rfl⟩ : ∃ k : Nat, x = (k : Int) := ⟨x.toNat, by omega⟩
  have hk : k < ns.length := by omega
  exact ⟨ns[k], atI_nat (by rw [List.getElem?_map, List.getElem?_eq_getElem hk]; rfl), by rw [Int.toNat_natCast, List.getElem?_eq_getElem hk]⟩
theorem cut_to {xs : List V} {k : Int} (h : 0 ≤ k) : cutV xs none (some k) = xs.take k.toNat := by
  obtain ⟨m, rfl⟩ : ∃ m : Nat, k = (m : Int) := ⟨k.toNat, by omega⟩
  unfold cutV
  rw [HT.sIx_none, HT.sIx_nat, List.drop_zero, Int.toNat_natCast]
  by_cases c : m ≤ xs.length
  · rw [Nat.min_eq_left c]; rfl
  · rw [Nat.min_eq_right (by omega), List.take_of_length_le (by omega), List.take_of_length_le (by omega)]
theorem cut_from {xs : List V} {k : Int} (h : 0 ≤ k) : cutV xs (some k) none = xs.drop k.toNat := by
  obtain ⟨m, rfl⟩ : ∃ m : Nat, k = (m : Int) := ⟨k.toNat, by omega⟩
  unfold cutV
  rw [HT.sIx_none, HT.sIx_nat, Int.toNat_natCast]
  by_cases c : m ≤ xs.length
  · rw [Nat.min_eq_left c, List.take_of_length_le (by rw [List.length_drop]; exact Nat.le_refl _)]
  · rw [Nat.min_eq_right (by omega), List.drop_of_length_le (Nat.le_refl _), List.drop_of_length_le (by omega), List.take_nil]
theorem at_last {ps : List Int} {p : Int} (h : ps.getLast? = some p) : atI (ps.map V.int) (-1) = some (.int p) := by
  have hp : ps ≠ [] := by rintro rfl; cases h
  have hl : 0 < ps.length := List.length_pos_iff.mpr hp
  unfold atI ixN
  rw [List.length_map, if_neg (by decide), if_pos (by omega)]
  show (ps.map V.int)[_]? = _
  rw [List.getElem?_map]
  have e : (-1 + (ps.length : Int)).toNat = ps.length - 1 := by omega
  rw [List.getLast?_eq_getElem?] at h
  rw [show ps[_]? = ps[ps.length - 1]? from congrArg (fun z => ps[z]?) (by omega), h]
  rfl
theorem at_ps {ps : List Int} {i : Nat} {z : Int} (e : z = (i : Int)) (h : i < ps.length) : atI (ps.map V.int) z = some (.int (ps.getD i 0)) := by
  subst e
  refine atI_nat ?_
  rw [List.getElem?_map, List.getD_eq_getElem?_getD, List.getElem?_eq_getElem h]
  rfl
theorem flat_rep (x : Int) : ∀ k : Nat, (List.replicate k [V.int x]).flatten = (List.replicate k x).map V.int
  | 0 => rfl
  | k + 1 => by rw [List.replicate_succ, List.flatten_cons, flat_rep x k, List.replicate_succ]; rfl
theorem sl_listK {X : Cx} {K : PySem.W.Frag} (h : X.K = K := by rfl) : SlR X (rSlL K) := h ▸ sl_list
theorem paired_r {α β : Type} {F : α → β → Prop} : ∀ {l₁ : List α} {l₂ : List β}, Paired F l₁ l₂ → ∀ b ∈ l₂, ∃ a, F a b
  | _, _, .nil, _, hb => nomatch hb
  | _, _, .cons h t, b, hb => by
    rcases List.mem_cons.mp hb with rfl | hb
    · exact ⟨_, h⟩
    · exact paired_r t b hb
theorem paired_l {α β : Type} {F : α → β → Prop} : ∀ {l₁ : List α} {l₂ : List β}, Paired F l₁ l₂ → ∀ a ∈ l₁, ∃ b, F a b
  | _, _, .nil, _, hb => nomatch hb
  | _, _, .cons h t, b, hb => by
    rcases List.mem_cons.mp hb with rfl | hb
    · exact ⟨_, h⟩
    · exact paired_l t b hb
theorem neD_K {X : Cx} {K : PySem.W.Frag} (hu : X.A.units + 64 < cLine) (h : X.K = K := by rfl) : OpR X (compareOp .NotEq) (rNeD K) := h ▸ op_neD hu
theorem eqD_K {X : Cx} {K : PySem.W.Frag} (hu : X.A.units + 64 < cLine) (h : X.K = K := by rfl) : OpR X (compareOp .Eq) (rEqD K) := h ▸ op_eqD hu
end St

namespace St
open PySem PySem.Spec PyProof.Rows L2
section
variable {X : Cx} {es : List Expr} {t : TA} {pos : Pos}
/-- a tuple's display; its object bears no dict -/
def tTupF (t : TA) : TE := fun σ H Q => t σ H fun xs H1 => xs.length ≤ sizeLine ∧ ∀ p (o : Obj), H1 p = none → o.dict = none → Q (.ref p) (upd H1 p (.frz o (.tup xs)))
theorem pe_tupF {x1} (h : PA X es t) : PE X (.Tuple es x1 pos) (tTupF t) := by
  refine ⟨fun pins s σ H Q I hq => wpAny_Tuple_spliced (thn (h.run pos pins s σ H _ I hq) fun us s1 hz => ?_)⟩
  obtain ⟨xs, H1, I1, r, z, q⟩ := hz
  refine ⟨by rw [← r.length]; exact z, ?_⟩
  have new : (s1.heap.push { cls := .type "tuple", data := .seq us.toArray }).get? s1.heap.objs.size = some { cls := .type "tuple", data := .seq us.toArray } := Heap.get?_push_size _ rfl
  exact ⟨.ref s1.heap.objs.size, _, I1.laid (t' := s1.toks) (o := .frz { cls := .type "tuple", data := .seq us.toArray } (.tup xs)) (fun b u e => Heap.get?_push_of_some _ e) (Nat.le_refl _) ⟨new, z, us, r, _, new, rfl, _, rfl⟩, rfl, q _ _ (I1.hok.fresh (Nat.le_refl _)) rfl⟩
/-- tuple(xs) of a list; its object bears no dict -/
def rTupF (K : PySem.W.Frag) : List V → Hp → VK → Prop := fun xs H Q => ∃ p ys, xs = [.ref p] ∧ SqL K H p ys ∧ ∀ l (o : Obj), H l = none → o.dict = none → Q (.ref l) (upd H l (.frz o (.tup ys)))
theorem call_tupF : CallR X (.type "tuple") (rTupF X.K) := by
  intro pins s σ H xs us Q I r h
  obtain ⟨p, ys, rfl, hq, q⟩ := h
  obtain ⟨u, rfl, rx⟩ := vals1 r
  cases rx
  obtain ⟨its, r', pl, hz⟩ := I.list hq
  have hl := r'.length
  refine call_tuple_list pl.isList (fun h' kp => ?_) (by simp only [List.size_toArray] <;> omega)
  have I1 : Inv X pins σ H { s with heap := h' } := I.kept (t' := s.toks) kp
  have new : (h'.push { cls := .type "tuple", data := .seq its.toArray }).get? h'.objs.size = some { cls := .type "tuple", data := .seq its.toArray } := Heap.get?_push_size _ rfl
  exact ⟨.ref h'.objs.size, _, I1.laid (t' := s.toks) (o := .frz { cls := .type "tuple", data := .seq its.toArray } (.tup ys)) (fun b o e => Heap.get?_push_of_some _ e) (Nat.le_refl _) ⟨new, hz, its, r', _, new, rfl, _, rfl⟩, rfl, q _ _ (I1.hok.fresh (Nat.le_refl _)) rfl⟩
/-! ### dict(t), t a tuple of pairs -/
theorem pairs_tab {pins : List (Addr × Obj)} {σ : L2.St} {H : Hp} {s : Shared} (I : L2.Inv X pins σ H s) : ∀ {ps : List Addr} {kvs : List (Key × V)}, Paired (fun p kv => SqT X.K H p [kV kv.1, kv.2]) ps kvs →
    ∃ (prs : List (Key × Value)) (us : List Value), KV kvs prs ∧ prs.length = ps.length ∧ us.length = ps.length ∧ ∀ (j : Nat) (q : Key × Value) (b : Addr) (u : Value), prs[j]? = some q → ps[j]? = some b → us[j]? = some u → IsTup s.heap b #[u, q.2] ∧ keyIs q.1 u = true
  | _, _, .nil => ⟨[], [], .nil, rfl, rfl, fun j q b u e => by simp at e⟩
  | _, _, .cons (a := p) (b := kv) h t => by
    obtain ⟨prs, us, r, h1, h2, h3⟩ := pairs_tab I t
    obtain ⟨its, rv, ht, _⟩ := I.tuple h
    obtain ⟨u, y, ei, ru, ry⟩ := vals2 rv
    subst ei
    refine ⟨(kv.1, y) :: prs, u :: us, .cons ⟨rfl, ry⟩ r, congrArg (· + 1) h1, congrArg (· + 1) h2, fun j q b u' e1 e2 e3 => ?_⟩
    cases j with
    | zero =>
      cases Option.some.inj e1
      cases Option.some.inj e2
      cases Option.some.inj e3
      exact ⟨ht, kV_is (P := X.prog) (w := X.w) ru⟩
    | succ j => exact h3 j q b u' e1 e2 e3
def rDictT (K : PySem.W.Frag) : List V → Hp → VK → Prop := fun xs H Q => ∃ (a : Addr) (o : Obj) (ps : List Addr) (kvs : List (Key × V)), xs = [.ref a] ∧ H a = some (.frz o (.tup (ps.map V.ref))) ∧ o.dict = none ∧ Paired (fun p kv => SqT K H p [kV kv.1, kv.2]) ps kvs ∧
  ∀ p, H p = none → Q (.ref p) (upd H p (.dK (mergeK [] kvs)))
theorem call_dictT (hcalm : X.calm = true) : CallR X (.type "dict") (rDictT X.K) := by
  intro pins s σ H xs us Q I r h
  obtain ⟨a, o, ps, kvs, rfl, ha, hd, hp, q⟩ := h
  obtain ⟨u, rfl, rx⟩ := vals1 r
  cases rx
  obtain ⟨ho, hz, its, rv, o', ho', hc, n, hdat⟩ := (show ObjOk X.prog X.w H s.heap a (.frz o (.tup (ps.map V.ref))) from I.hok a _ ha)
  have eo : o' = o := Option.some.inj (ho'.symm.trans ho)
  subst eo
  have ei := refs_at rv
  subst ei
  rw [List.length_map] at hz
  obtain ⟨prs, ks, rel, l1, l2, l3⟩ := pairs_tab I hp
  have lz : (ks.zip (prs.map (·.2))).length = ps.length := by rw [List.length_zip, List.length_map, l1, l2, Nat.min_self]
  have PI : PairItems s.heap (ps.map Value.ref).toArray (fun j => ps.getD j 0) (ks.zip (prs.map (·.2))) := by
    refine ⟨by rw [lz]; simp, fun j k v e => ?_⟩
    obtain ⟨e1, e2⟩ := List.getElem?_zip_eq_some.mp e
    have hj : j < ps.length := by
      rw [← l2]
      exact (List.getElem?_eq_some_iff.mp e1).1
    have e3 : ps[j]? = some (ps.getD j 0) := by rw [List.getD_eq_getElem?_getD, List.getElem?_eq_getElem hj]; rfl
    rw [List.getElem?_map] at e2
    cases e4 : prs[j]? with
    | none => rw [e4] at e2; cases e2
    | some p =>
      rw [e4] at e2
      cases Option.some.inj e2
      refine ⟨by rw [List.getElem?_toArray, List.getElem?_map, e3]; rfl, .inl ?_⟩
      exact (l3 j p _ k e4 e3 e1).1
  refine _root_.PySem.call_dict_pairs (A := X.A) (knd := mixKind X.prog X.w) (kvs := prs) (PairArg.tuple a (ps.map Value.ref).toArray (fun j => ps.getD j 0) (ks.zip (prs.map (·.2)))) (I.ok.hd hcalm) ⟨⟨o', n, ho, hc, hd, hdat⟩, PI⟩ ⟨by rw [lz, l1], fun i key v e => ?_⟩ (by rw [lz]; exact hz) fun h' tk hd' k => ?_
  · obtain ⟨e1, e2⟩ := List.getElem?_zip_eq_some.mp (show (ks.zip (prs.map (·.2)))[i]? = some (key, v) from e)
    have hj : i < ps.length := by
      rw [← l2]
      exact (List.getElem?_eq_some_iff.mp e1).1
    rw [List.getElem?_map] at e2
    cases e4 : prs[i]? with
    | none => rw [e4] at e2; cases e2
    | some p =>
      rw [e4] at e2
      cases Option.some.inj e2
      exact ⟨p.1, rfl, (l3 i p _ key e4 (List.getElem?_eq_getElem hj) e1).2⟩
  · have big : (s.heap.objs.size == sysModules) = false := beq_eq_false_iff_ne.mpr (Nat.ne_of_gt I.big)
    have hl : (mergeK [] kvs).length ≤ sizeLine := by
      have z := length_mergeK kvs []
      rw [List.length_nil, Nat.zero_add, rel.length, l1] at z
      exact Nat.le_trans z hz
    exact ⟨.ref s.heap.objs.size, _, I.laid (t' := tk) (o := .dK (mergeK [] kvs)) (fun b o e => k b o (fun z => nomatch z) e) (Nat.le_refl _) ⟨hl, big, merged [] prs, KV.merge rel .nil, hd'⟩, rfl, q _ (I.hok.fresh (Nat.le_refl _))⟩
end
end St

/-! ### d.items(), sorted of them: keys ints, all unlike -/
namespace St
open PySem PySem.Spec PyProof.Rows L2
theorem pairs_get {P : Program} {w : World} : ∀ {es : List DictEntry} {vs : List (Key × Value)} {j : Nat} {e : DictEntry}, Pairs (mixKind P w) es vs → es[j]? = some e → ∃ kv, vs[j]? = some kv ∧ keyIs kv.1 e.key = true ∧ e.val = kv.2
  | _, _, j, e, .nil, h => by simp at h
  | _, _, 0, e, .cons h1 h2 _, h => by cases Option.some.inj h; exact ⟨_, rfl, h1, h2⟩
  | _, _, j + 1, e, .cons _ _ r, h => pairs_get (j := j) r h
theorem kv_get : ∀ {kvs : List (Key × V)} {vs : List (Key × Value)} {j : Nat} {q : Key × Value}, KV kvs vs → vs[j]? = some q → ∃ p, kvs[j]? = some p ∧ p.1 = q.1 ∧ RelV p.2 q.2
  | _, _, j, q, .nil, h => by simp at h
  | _, _, 0, q, .cons h1 _, h => by cases Option.some.inj h; exact ⟨_, rfl, h1.1, h1.2⟩
  | _, _, j + 1, q, .cons _ r, h => kv_get (j := j) r h
def rItemsK : V → List V → Hp → VK → Prop := fun x xs H Q => ∃ (a : Addr) (kvs : List (Key × V)), x = .ref a ∧ xs = [] ∧ H a = some (.dK kvs) ∧ ∀ p, H p = none → Q (.ref p) (upd H p (DX.itemsO p a))
section
variable {X : Cx}
theorem mt_itemsK : MtR X "dict.items" rItemsK := by
  intro pins s σ H x xs v us Q I rx rxs h
  obtain ⟨a, kvs, rfl, rfl, ha, q⟩ := h
  cases rx
  cases rxs
  obtain ⟨z, hd, vs, rel, o, es, ep, ho, hx, hdat, _⟩ := dk_of I.hok ha
  refine DT.callItems (es := es) (ep := ep) hd ⟨o, ho, hx, hdat⟩ ?_
  exact ⟨.ref s.heap.objs.size, _, I.laid (t' := s.toks) (o := DX.itemsO s.heap.objs.size a) (fun b u e => Heap.get?_push_of_some _ e) (Nat.le_refl _) (DX.itemsO_ok (Heap.get?_push_size _ rfl)), rfl, q _ (I.hok.fresh (Nat.le_refl _))⟩
end
/-! the order of pairs whose first items are ints, all unlike -/
def intOf : Option Value → Int
  | some (.int i _) => i
  | _ => 0
/-- the first int of the pair v, read off the heap -/
def fst1 (h : Heap) (v : Value) : Int := intOf (DT.seqAt0 h (DT.refOf (some v)))
/-- v is a pair (k, y) -/
def PairK (h : Heap) (v : Value) (k : Int) (y : Value) : Prop := ∃ (a : Addr) (t : Tok), v = .ref a ∧ IsTup h a #[.int k t, y]
theorem PairK.fst {h : Heap} {v : Value} {k : Int} {y : Value} (x : PairK h v k y) : fst1 h v = k := by
  obtain ⟨a, t, rfl, p⟩ := x
  show intOf (DT.seqAt0 h a) = k
  rw [DT.seqAt0_of p]
  rfl
theorem PairK.keeps {h h' : Heap} {v : Value} {k : Int} {y : Value} (x : PairK h v k y) (f : ∀ b o, h.get? b = some o → o.cls = .type "tuple" → h'.get? b = some o) : PairK h' v k y := by
  obtain ⟨a, t, e, o, ho, hc, r⟩ := x
  exact ⟨a, t, e, o, f _ _ ho hc, hc, r⟩
section
variable {prog : Program} {w : World} {A : Around} {E : Value → Shared → Prop} {s : Shared}
theorem eqBool_self {v : Value} {Q : Bool → Shared → Prop} (h : Q true s) : wpAny (model prog w) A (eqBool v v) Q E s := by
  unfold eqBool
  refine wpAny_holding ?_
  rw [if_pos (beq_self_eq_true v)]
  exact wpAny_bind (wpAny_rule (wpAny_pure h))
theorem swo_fst (k : Value → Int) : SrtO.Swo fun v u => decide (k v < k u) := by
  refine ⟨fun x y h => ?_, fun x y z h1 h2 => ?_⟩
  · have a := of_decide_eq_true h
    exact decide_eq_false (by omega)
  · have a := of_decide_eq_false h1
    have b := of_decide_eq_false h2
    exact decide_eq_false (by omega)
theorem firsts_K {h : Heap} : ∀ vs : List Value, (∀ v ∈ vs, ∃ k y, PairK h v k y) → ∃ fs : List Value, PySem.W.KatTups h vs fs ∧ fs.length = vs.length ∧ ∀ f ∈ fs, ∃ i t, f = Value.int i t
  | [], _ => ⟨[], PySem.W.KatTups.nil, rfl, fun f hf => by simp at hf⟩
  | v :: vs, x => by
    obtain ⟨fs, k, hl, hi⟩ := firsts_K vs fun u hu => x u (List.mem_cons_of_mem _ hu)
    obtain ⟨i, y, a, t, rfl, o, ho, hc, n, hd⟩ := x v (List.mem_cons_self ..)
    refine ⟨.int i t :: fs, PySem.W.KatTups.cons ho hc hd rfl k, congrArg (· + 1) hl, fun f hf => ?_⟩
    rcases List.mem_cons.mp hf with rfl | hf
    · exact ⟨i, t, rfl⟩
    · exact hi f hf
/-- any two of them compare by their first items; the very same one with itself -/
theorem cmp_K {vs : List Value} (hp : ∀ v ∈ vs, ∃ k y, PairK s.heap v k y) (hu : ∀ v ∈ vs, ∀ u ∈ vs, fst1 s.heap v = fst1 s.heap u → v = u) :
    SrtO.Cmp prog w A s (tuples' true) (fun p => p.1 ∈ vs) (SrtO.lt2 fun v u => decide (fst1 s.heap v < fst1 s.heap u)) := by
  intro p q hm hm'
  obtain ⟨k1, y1, h1⟩ := hp _ hm
  obtain ⟨k2, y2, h2⟩ := hp _ hm'
  have f1 := h1.fst
  have f2 := h2.fst
  have hu' := hu _ hm _ hm'
  show wpAny (model prog w) A (keyLt' (tuples' true) p.1 q.1) (fun r s' => s' = s ∧ r = decide (fst1 s.heap p.1 < fst1 s.heap q.1)) (fun _ _ => False) s
  obtain ⟨a, t, e, o, ho, hc, n, hd⟩ := h1
  obtain ⟨a', t', e', o', ho', hc', n', hd'⟩ := h2
  rw [f1, f2] at hu' ⊢
  rw [e, e']
  refine PySem.W.kat_lt ho hd ho' hd' ?_
  show PySem.W.KatLex prog w A true false _ [(.int k1 t, .int k2 t'), (y1, y2)] 0 s
  refine PySem.W.kat_cons (SeqAt.EqAt.int_int k1 t k2 t' prog w _ _ ?_)
  refine PySem.W.kat_go (fun e1 => ?_) (fun e1 => ?_)
  · have ek : k1 = k2 := by simpa using e1
    have ea : a = a' := by
      have z := hu' ek
      rw [e, e'] at z
      exact Value.ref.inj z
    subst ea
    have eo : o = o' := Option.some.inj (ho.symm.trans ho')
    subst eo
    have ed := hd.symm.trans hd'
    injection ed with ed _
    have ey : y1 = y2 := by
      have z := congrArg Array.toList ed
      simp at z
      exact z.2
    subst ey
    refine PySem.W.kat_yes (PySem.W.kat_cons (eqBool_self ?_))
    refine PySem.W.kat_yes (PySem.W.kat_nil ⟨rfl, ?_⟩)
    exact (decide_eq_false (by omega)).symm
  · exact PySem.W.kat_no (PyProof.Rows.oneLt_int ⟨rfl, rfl⟩)
theorem sortable_K {a : Addr} {vs : List Value} (h0 : 0 < vs.length) (hp : ∀ v ∈ vs, ∃ k y, PairK s.heap v k y) (hu : ∀ v ∈ vs, ∀ u ∈ vs, fst1 s.heap v = fst1 s.heap u → v = u) (ha : ∀ o, s.heap.get? a = some o → o.cls ≠ .type "tuple") :
    SrtO.SortableO prog w A s a vs fun v u => decide (fst1 s.heap v < fst1 s.heap u) := by
  intro h' keep
  have kp : ∀ b o, s.heap.get? b = some o → o.cls = .type "tuple" → h'.get? b = some o := fun b o e c => keep b o (fun z => by subst z; exact ha o e c) e
  have hp' : ∀ v ∈ vs, ∃ k y, PairK h' v k y := fun v hm => let ⟨k, y, x⟩ := hp v hm; ⟨k, y, x.keeps kp⟩
  have same : ∀ v ∈ vs, fst1 h' v = fst1 s.heap v := fun v hm => by
    obtain ⟨k, y, x⟩ := hp v hm
    rw [x.fst, (x.keeps kp).fst]
  obtain ⟨fs, h1, h2, h3⟩ := firsts_K vs hp'
  refine ⟨tuples' true, fun Q E hq => ?_, fun p q hm hm' => ?_⟩
  · refine PySem.W.kat_kind (T := .type "int") h1 (by omega) (fun f hm => ?_) (by rfl) ?_
    · obtain ⟨x, t, rfl⟩ := h3 f hm
      exact PySem.W.Looks.now
    · have e : (Value.type "int" != Value.type "tuple") = true := by first | decide +kernel | rfl | decide
      rw [e]
      exact hq
  · have c := cmp_K (prog := prog) (w := w) (A := A) (s := { s with heap := h' }) hp' (fun v hv u hw e => hu v hv u hw (by rw [← same v hv, ← same u hw]; exact e)) p q hm hm'
    have e : (SrtO.lt2 fun v u => decide (fst1 s.heap v < fst1 s.heap u)) p q = (SrtO.lt2 fun v u => decide (fst1 h' v < fst1 h' u)) p q := by
      show decide (fst1 s.heap p.1 < fst1 s.heap q.1) = decide (fst1 h' p.1 < fst1 h' q.1)
      rw [same _ hm, same _ hm']
    rw [e]
    exact c
end
end St

namespace St
open PySem PySem.Spec PyProof.Rows L2
def rSortItK : List V → Hp → VK → Prop := fun vs H Q => ∃ (p a : Addr) (ks : List (Int × V)), vs = [.ref p] ∧ H p = some (DX.itemsO p a) ∧ H a = some (.dK (ks.map fun e => (Sum.inl e.1, e.2))) ∧ (ks.map (·.1)).Nodup ∧
  ∀ (H' : Hp) (l : Addr) (ps : List (Addr × Int × V)), Same H H' → H l = none → (ps.map (·.2)).Perm ks → (ps.map (·.2.1)).Pairwise (· < ·) → H' l = some (.lst (ps.map fun z => V.ref z.1)) → (∀ z ∈ ps, H' z.1 = some (.tup [.int z.2.1, z.2.2])) → Q (.ref l) H'
theorem map_zip1 {α β γ : Type} (f : α → γ) : ∀ (as : List α) (ks : List β), as.length = ks.length → (as.zip ks).map (fun z => f z.1) = as.map f
  | [], _, _ => rfl
  | a :: as, [], h => by simp at h
  | a :: as, k :: ks, h => by
    rw [List.zip_cons_cons, List.map_cons, List.map_cons, map_zip1 f as ks (by simpa using h)]
section
variable {X : Cx}
theorem cr_sortedItemsK (hc : X.calm = true) : CallR X (.builtin "sorted") rSortItK := by
  intro pins s σ H xs us Q I r h
  obtain ⟨p, a, ks, rfl, hp, ha, hnd, q⟩ := h
  obtain rfl := Vals.ref1 r
  have view : s.heap.IsItemsView p a := (show ObjOk X.prog X.w H s.heap p (DX.itemsO p a) from I.hok p _ hp).1
  obtain ⟨z, hd, vs, rel, o, es, ep, ho, hx, hdat, _, prs, _⟩ := dk_of I.hok ha
  have l1 : ks.length = vs.length := by
    have z := Paired.length rel
    rwa [List.length_map] at z
  have l2 : es.size = vs.length := by
    have z := prs.length
    rwa [Array.length_toList] at z
  rw [List.length_map] at z
  refine DT.sortedI (es := es) (ep := ep) (I.ok.hd hc) view ⟨o, ho, hx, hdat⟩ (by omega) fun h' tk as hk hlt hl hG => ?_
  have lak : as.length = ks.length := by omega
  have nd : as.Nodup := List.Pairwise.imp (fun h => Nat.ne_of_lt h) hG.rise
  have made : ∀ (j : Nat) (b : Addr), as[j]? = some b → ∃ (e : Int × V) (y : Value) (t : Tok), ks[j]? = some e ∧ RelV e.2 y ∧ h'.get? b = some { cls := .type "tuple", data := .seq #[Value.int e.1 t, y] } := by
    intro j b hj
    obtain ⟨en, he, hg⟩ := hG.pairs j b hj
    obtain ⟨kv, e1, e2, e3⟩ := pairs_get prs (by rw [Array.getElem?_toList]; exact he)
    obtain ⟨pv, f1, f2, f3⟩ := kv_get rel e1
    rw [List.getElem?_map] at f1
    cases g : ks[j]? with
    | none => rw [g] at f1; cases f1
    | some e =>
      rw [g] at f1
      cases Option.some.inj f1
      have f2' : kv.1 = Sum.inl e.1 := f2.symm
      rw [f2'] at e2
      rcases keyIs_shape e2 with ⟨i, t, h1, h2⟩ | ⟨x, t, h1, _⟩
      · cases h1
        refine ⟨e, kv.2, t, rfl, f3, ?_⟩
        rw [hg, h2, e3]
      · cases h1
  -- the heap of the sort
  have hob : (h'.push { cls := .type "list", data := .seq (as.map Value.ref).toArray }).get? h'.objs.size = some (seqObj "list" (as.map Value.ref).toArray 0) := Heap.get?_push_size _ rfl
  have ne0 : ∀ b o, h'.get? b = some o → b ≠ h'.objs.size := fun b o e => Nat.ne_of_lt (Heap.lt_size e)
  have ka : ∀ b o, h'.get? b = some o → (h'.push { cls := .type "list", data := .seq (as.map Value.ref).toArray }).get? b = some o := fun b o e => Heap.get?_push_of_some _ e
  generalize (h'.push { cls := .type "list", data := .seq (as.map Value.ref).toArray }) = h2 at hob ka ⊢
  have pk : ∀ (j : Nat) (b : Addr), as[j]? = some b → ∃ (e : Int × V) (y : Value), ks[j]? = some e ∧ RelV e.2 y ∧ PairK h2 (.ref b) e.1 y := by
    intro j b hj
    obtain ⟨e, y, t, h1, h3, h4⟩ := made j b hj
    exact ⟨e, y, h1, h3, b, t, rfl, _, ka _ _ h4, rfl, _, rfl⟩
  have at_ : ∀ v ∈ as.map Value.ref, ∃ (j : Nat) (b : Addr) (e : Int × V) (y : Value), v = .ref b ∧ as[j]? = some b ∧ ks[j]? = some e ∧ PairK h2 v e.1 y := by
    intro v hv
    obtain ⟨b, hb, rfl⟩ := List.mem_map.mp hv
    obtain ⟨j, hj⟩ := List.mem_iff_getElem?.mp hb
    obtain ⟨e, y, h1, _, h3⟩ := pk j b hj
    exact ⟨j, b, e, y, rfl, hj, h1, h3⟩
  have uq : ∀ v ∈ as.map Value.ref, ∀ u ∈ as.map Value.ref, fst1 h2 v = fst1 h2 u → v = u := by
    intro v hv u hu e
    obtain ⟨j, b, c, y, rfl, h1, h3, h4⟩ := at_ v hv
    obtain ⟨j', b', c', y', rfl, h1', h3', h4'⟩ := at_ u hu
    rw [h4.fst, h4'.fst] at e
    have k1 : (ks.map (·.1))[j]? = some c.1 := by rw [List.getElem?_map, h3]; rfl
    have k2 : (ks.map (·.1))[j']? = some c.1 := by rw [List.getElem?_map, h3', e]; rfl
    have ej : j = j' := (List.getElem?_inj (List.getElem?_eq_some_iff.mp k1).1 hnd).mp (k1.trans k2.symm)
    subst ej
    cases Option.some.inj (h1.symm.trans h1')
    rfl
  have hsz : (as.map Value.ref).length ≤ sizeLine := by rw [List.length_map, lak]; exact z
  refine wpAny_call_entry PyProof.Rows.slot_list_sort ⟨_, hob, rfl⟩ PyProof.Rows.entry_list_sort
    (SrtO.list_sort_ord (s := { s with heap := h2, toks := tk }) (swo_fst (fst1 h2)) hob hsz (fun h2' => ?_) fun out o1 o2 => ⟨.none, rfl, ?_⟩) (PyProof.Rows.args_list_sort _)
  · refine sortable_K (s := { s with heap := h2, toks := tk }) (by omega) (fun v hv => ?_) uq (fun o e c => ?_)
    · obtain ⟨j, b, c, y, _, _, _, h4⟩ := at_ v hv
      exact ⟨c.1, y, h4⟩
    · cases Option.some.inj (e.symm.trans hob)
      exact absurd (Value.type.inj c) (by decide)
  · show EP X pins σ Q (.ref h'.objs.size) { s with heap := sortedHeap h2 h'.objs.size (as.map Value.ref) out.toArray, toks := tk }
    obtain ⟨zs, pz, ez⟩ := perm_lift (fun z : Addr × Int × V => Value.ref z.1) o2.perm (as.zip ks) (map_zip1 Value.ref as ks lak)
    have idx : ∀ z ∈ zs, ∃ j : Nat, as[j]? = some z.1 ∧ ks[j]? = some z.2 := by
      intro z' hz'
      obtain ⟨j, hj⟩ := List.mem_iff_getElem?.mp (pz.mem_iff.mp hz')
      exact ⟨j, List.getElem?_zip_eq_some.mp hj⟩
    have hperm : (zs.map (·.2)).Perm ks := by
      have e := pz.map (·.2)
      have m2 : (as.zip ks).map (·.2) = ks := List.map_snd_zip (by rw [lak]; exact Nat.le_refl _)
      rwa [m2] at e
    have key : ∀ z ∈ zs, fst1 h2 (Value.ref z.1) = z.2.1 := by
      intro z' hz'
      obtain ⟨j, j1, j2⟩ := idx z' hz'
      obtain ⟨e, y, h1, _, h3⟩ := pk j z'.1 j1
      have ee : e = z'.2 := Option.some.inj (h1.symm.trans j2)
      rw [h3.fst, ee]
    have hnd2 : (zs.map (·.2.1)).Nodup := by
      have e := (hperm.map (·.1)).nodup_iff.mpr hnd
      rwa [List.map_map] at e
    have hsort : (zs.map (·.2.1)).Pairwise (· < ·) := by
      have o3 : (zs.map fun z => Value.ref z.1).Pairwise (fun x y => decide (fst1 h2 y < fst1 h2 x) = false) := by rw [ez]; exact o1
      rw [List.pairwise_map] at o3
      rw [List.pairwise_map]
      have hnd3 := List.pairwise_map.mp hnd2
      refine List.Pairwise.imp_of_mem (fun {x y} hx hy h => ?_) (o3.and hnd3)
      have a1 := of_decide_eq_false h.1
      rw [key x hx, key y hy] at a1
      have a2 := h.2
      omega
    -- behind the sort
    have kF : ∀ b o, b ≠ h'.objs.size → h2.get? b = some o → (sortedHeap h2 h'.objs.size (as.map Value.ref) out.toArray).get? b = some o := fun b o hb e => (PyProof.Rows.sortedHeap_old hb (Heap.lt_size e)).trans e
    have kS : ∀ b o, s.heap.get? b = some o → (sortedHeap h2 h'.objs.size (as.map Value.ref) out.toArray).get? b = some o := fun b o e => kF b o (ne0 _ _ (hk b o e)) (ka _ _ (hk b o e))
    obtain ⟨eF, heF⟩ := PyProof.Rows.sortedHeap_at (vs := as.map Value.ref) (out := out.toArray) hob
    have I1 : Inv X pins σ H { s with heap := sortedHeap h2 h'.objs.size (as.map Value.ref) out.toArray, toks := tk } := I.kept (t' := tk) kS
    have hn0 : H h'.objs.size = none := I.hok.fresh (Nat.le_of_lt hlt)
    have hlen : (zs.map fun z => V.ref z.1).length ≤ sizeLine := by
      have e := hperm.length_eq
      rw [List.length_map] at e
      rw [List.length_map, e]
      exact z
    have rv : Vals (zs.map fun z => V.ref z.1) out := by
      rw [← ez]
      exact vals_maps (fun z : Addr × Int × V => V.ref z.1) (fun z => Value.ref z.1) zs fun _ _ => rfl
    have I2 : Inv X pins σ (upd H h'.objs.size (.lst (zs.map fun z => V.ref z.1))) { s with heap := sortedHeap h2 h'.objs.size (as.map Value.ref) out.toArray, toks := tk } :=
      I1.take (h' := sortedHeap h2 h'.objs.size (as.map Value.ref) out.toArray) (t' := tk) (fun b ob _ e => e) (I.fpOk (Nat.le_of_lt hlt) hn0) ⟨hlen, out, eF, rv, heF⟩
    obtain ⟨H2, I3, g, qt⟩ := DX.takeT (P := fun b ys => ∃ (j : Nat) (e : Int × V), as[j]? = some b ∧ ks[j]? = some e ∧ ys = [.int e.1, e.2]) I as _ I2 nd fun b hb => by
      obtain ⟨j, hj⟩ := List.mem_iff_getElem?.mp hb
      obtain ⟨e, y, t, he, hy, hg⟩ := made j b hj
      have hbl : s.heap.objs.size ≤ b := Nat.le_of_lt (hG.above b hb)
      refine ⟨hbl, ?_, [.int e.1, e.2], ⟨j, e, hj, he, rfl⟩, fun H3 => ⟨(by show 2 ≤ sizeLine; decide), [Value.int e.1 t, y], .cons ⟨t, rfl⟩ (.cons hy .nil), ⟨_, kF _ _ (ne0 _ _ hg) (ka _ _ hg), rfl, 0, rfl⟩⟩⟩
      rw [upd_ne (ne0 _ _ hg)]
      exact I.hok.fresh hbl
    refine ⟨.ref h'.objs.size, H2, I3, rfl, q H2 h'.objs.size zs (fun b o e => g b o (by rw [upd_ne (ne_of_none e hn0)]; exact e)) hn0 hperm hsort (g _ _ upd_same) fun z' hz' => ?_⟩
    obtain ⟨i, i1, i2⟩ := idx z' hz'
    obtain ⟨ys, ⟨j, e, j1, j2, ev⟩, hH⟩ := qt z'.1 (List.mem_of_getElem? i1)
    have eij : i = j := (List.getElem?_inj (List.getElem?_eq_some_iff.mp i1).1 nd).mp (i1.trans j1.symm)
    subst eij
    have ee : e = z'.2 := Option.some.inj (j2.symm.trans i2)
    rw [ev, ee] at hH
    exact hH
end
end St

namespace St
open PySem PySem.Spec PyProof.Rows L2
/-! ### what a guesser knows -/
inductive Sg where
  | str (l : Option Int) (st t : Int)
  | prs (l : Option Int) (kn : List (Int × List Int))
  | both (a b : Sg)
def optV : Option Int → V
  | none => .non
  | some i => .int i
/-- what came behind what: its lists lie in tuples -/
def Ku (K : PySem.W.Frag) (H : Hp) (kn : List (Int × List Int)) (ku : List (Int × Addr)) : Prop := Paired (fun (e : Int × List Int) (f : Int × Addr) => e.1 = f.1 ∧ SqT K H f.2 (e.2.map V.int)) kn ku
/-- .. as it lies in a tuple q of pairs -/
def IsKn (K : PySem.W.Frag) (H : Hp) (kn : List (Int × List Int)) (q : Addr) : Prop :=
  ∃ (o : Obj) (ps : List Addr) (ku : List (Int × Addr)), H q = some (.frz o (.tup (ps.map V.ref))) ∧ o.dict = none ∧ Paired (fun (p : Addr) (e : Int × Addr) => SqT K H p [.int e.1, .ref e.2]) ps ku ∧ Ku K H kn ku
theorem Ku.imm {K : PySem.W.Frag} {H H' : Hp} {kn : List (Int × List Int)} {ku : List (Int × Addr)} (h : Ku K H kn ku) (e : Imm H H') : Ku K H' kn ku := Paired.mapP h fun _ _ z => ⟨z.1, e.t z.2⟩
def IsS (K : PySem.W.Frag) (H : Hp) : Sg → V → Prop
  | .str l st t, v => ∃ p, v = .ref p ∧ SqT K H p [optV l, .int st, .int t]
  | .prs l kn, v => ∃ p q, v = .ref p ∧ SqT K H p [optV l, .ref q] ∧ IsKn K H kn q
  | .both a b, v => ∃ p x y, v = .ref p ∧ SqT K H p [x, y] ∧ IsS K H a x ∧ IsS K H b y
theorem IsKn.imm {K : PySem.W.Frag} {H H' : Hp} {kn : List (Int × List Int)} {q : Addr} (h : IsKn K H kn q) (e : Imm H H') : IsKn K H' kn q := by
  obtain ⟨o, ps, ku, h1, h2, h3, h4⟩ := h
  exact ⟨o, ps, ku, e.frz _ _ _ h1, h2, Paired.mapP h3 fun _ _ z => e.t z, h4.imm e⟩
theorem IsS.imm {K : PySem.W.Frag} {H H' : Hp} : ∀ {s : Sg} {v : V}, IsS K H s v → Imm H H' → IsS K H' s v
  | .str _ _ _, _, ⟨p, e, h⟩, i => ⟨p, e, i.t h⟩
  | .prs _ _, _, ⟨p, q, e, h, k⟩, i => ⟨p, q, e, i.t h, k.imm i⟩
  | .both _ _, _, ⟨p, x, y, e, h, a, b⟩, i => ⟨p, x, y, e, i.t h, a.imm i, b.imm i⟩
theorem IsS.same {K : PySem.W.Frag} {H H' : Hp} {s : Sg} {v : V} (h : IsS K H s v) (e : Same H H') : IsS K H' s v := h.imm (Imm.same e)
/-- put in its place -/
def insK {α : Type} (k : Int) (v : α) : List (Int × α) → List (Int × α)
  | [] => [(k, v)]
  | (k', v') :: r => if k < k' then (k, v) :: (k', v') :: r else if k = k' then (k, v) :: r else (k', v') :: insK k v r
def lookK (kn : List (Int × List Int)) (k : Int) : List Int := (kn.lookup k).getD []
def knStep (many : Int) (l : Option Int) (kn : List (Int × List Int)) (p : Int) : List (Int × List Int) :=
  match l with
  | none => kn
  | some x => insK x (p :: ((lookK kn x).filter fun e => decide (e ≠ p)).take (many - 1).toNat) kn
def strStep (trust : Int) (l : Option Int) (st t p : Int) : Sg × List Int :=
  match l with
  | none => (.str (some p) 0 0, [])
  | some x => (.str (some p) (p - x) (if p - x = st then t + 1 else 1), if p - x ≠ 0 ∧ trust ≤ (if p - x = st then t + 1 else 1) then [p + (p - x)] else [])
def hd0 : List Int → Int
  | [] => 0
  | n :: _ => n
/-- what a guesser knows and guesses behind a place more -/
def stepG : G → Sg → Int → Sg × List Int
  | .both a b, .both s t, p => (.both (stepG a s p).1 (stepG b t p).1, (stepG a s p).2 ++ (stepG b t p).2.filter fun e => decide (e ∉ (stepG a s p).2))
  | .leaf w ns, s, p => if w = "none" then (s, []) else if w = "next" then (s, (List.range (hd0 ns).toNat).map fun (k : Nat) => p + (k : Int) + 1)
      else (match s with
        | .str l st t => strStep (hd0 ns) l st t p
        | .prs l kn => (.prs (some p) (knStep (hd0 ns) l kn p), lookK (knStep (hd0 ns) l kn p) p)
        | s => (s, []))
  | _, s, _ => (s, [])
/-- the state fits the guesser -/
def Fit : G → Sg → Prop
  | .both a b, .both s t => Fit a s ∧ Fit b t
  | .leaf w _, .str _ _ _ => w = "stride"
  | .leaf w _, .prs _ _ => w ≠ "stride"
  | _, _ => False
def first0 : G → Sg
  | .both a b => .both (first0 a) (first0 b)
  | .leaf w _ => if w = "stride" then .str none 0 0 else .prs none []
  | _ => .prs none []
/-- keys rise; few of them; few behind each -/
def okS (N : Nat) : Sg → Prop
  | .str _ _ _ => True
  | .prs _ kn => kn.length ≤ N ∧ (kn.map (·.1)).Pairwise (· < ·) ∧ ∀ e ∈ kn, e.2.length ≤ 3
  | .both a b => okS N a ∧ okS N b
theorem insK_len {α : Type} (k : Int) (v : α) : ∀ kn : List (Int × α), (insK k v kn).length ≤ kn.length + 1
  | [] => Nat.le_refl _
  | (k', v') :: r => by
    unfold insK
    split
    · exact Nat.le_refl _
    · split
      · exact Nat.le_succ _
      · exact Nat.succ_le_succ (insK_len k v r)
theorem insK_mem {α : Type} {k : Int} {v : α} : ∀ {kn : List (Int × α)} {e : Int × α}, e ∈ insK k v kn → e = (k, v) ∨ e ∈ kn
  | [], e, h => .inl (List.mem_singleton.mp h)
  | (k', v') :: r, e, h => by
    unfold insK at h
    split at h
    · rcases List.mem_cons.mp h with h | h
      · exact .inl h
      · exact .inr h
    · split at h
      · rcases List.mem_cons.mp h with h | h
        · exact .inl h
        · exact .inr (List.mem_cons_of_mem _ h)
      · rcases List.mem_cons.mp h with h | h
        · exact .inr (h ▸ List.mem_cons_self ..)
        · rcases insK_mem h with h | h
          · exact .inl h
          · exact .inr (List.mem_cons_of_mem _ h)
theorem insK_rise {α : Type} {k : Int} {v : α} : ∀ {kn : List (Int × α)}, (kn.map (·.1)).Pairwise (· < ·) → ((insK k v kn).map (·.1)).Pairwise (· < ·)
  | [], _ => List.pairwise_singleton _ _
  | (k', v') :: r, h => by
    rw [List.map_cons, List.pairwise_cons] at h
    unfold insK
    split
    · rename_i c
      rw [List.map_cons, List.pairwise_cons, List.map_cons, List.pairwise_cons]
      refine ⟨fun x hx => ?_, h⟩
      rcases List.mem_cons.mp hx with rfl | hx
      · exact c
      · exact Int.lt_trans c (h.1 x hx)
    · split
      · rename_i c
        subst c
        rw [List.map_cons, List.pairwise_cons]
        exact h
      · rename_i c1 c2
        rw [List.map_cons, List.pairwise_cons]
        refine ⟨fun x hx => ?_, insK_rise h.2⟩
        obtain ⟨e, he, rfl⟩ := List.mem_map.mp hx
        rcases insK_mem he with rfl | he
        · show k' < k
          omega
        · exact h.1 _ (List.mem_map.mpr ⟨e, he, rfl⟩)
theorem lookK_len {N : Nat} {kn : List (Int × List Int)} (h : ∀ e ∈ kn, e.2.length ≤ N) (k : Int) : (lookK kn k).length ≤ N := by
  unfold lookK
  cases e : kn.lookup k with
  | none => exact Nat.zero_le _
  | some v =>
    show v.length ≤ N
    have : ∀ {kn : List (Int × List Int)}, kn.lookup k = some v → (k, v) ∈ kn := by
      intro kn
      induction kn with
      | nil => intro h; cases h
      | cons a r ih =>
        intro h
        obtain ⟨x, y⟩ := a
        rw [List.lookup_cons] at h
        split at h
        · rename_i c
          have := eq_of_beq c
          subst this
          cases Option.some.inj h
          exact List.mem_cons_self ..
        · exact List.mem_cons_of_mem _ (ih h)
    exact h _ (this e)
theorem knStep_ok {N : Nat} {many : Int} (hm : many ≤ 3) {l : Option Int} {kn : List (Int × List Int)} {p : Int} (h : okS N (.prs l kn)) : okS (N + 1) (.prs (some p) (knStep many l kn p)) := by
  obtain ⟨h1, h2, h3⟩ := h
  unfold knStep
  cases l with
  | none => exact ⟨Nat.le_succ_of_le h1, h2, h3⟩
  | some x =>
    refine ⟨Nat.le_trans (insK_len _ _ _) (Nat.succ_le_succ h1), insK_rise h2, fun e he => ?_⟩
    rcases insK_mem he with rfl | he
    · show (p :: _).length ≤ 3
      rw [List.length_cons, List.length_take]
      omega
    · exact h3 e he
/-- by the keys alone -/
theorem rise_uniq {α : Type} {l m : List (Int × α)} (p : l.Perm m) (hl : (l.map (·.1)).Pairwise (· < ·)) (hm : (m.map (·.1)).Pairwise (· < ·)) : l = m := by
  rw [List.pairwise_map] at hl hm
  exact List.Perm.eq_of_pairwise (fun a b _ _ h1 h2 => absurd h1 (Int.not_lt.mpr (Int.le_of_lt h2))) hl hm p
theorem insK_perm {α : Type} {k : Int} {v : α} : ∀ {kn : List (Int × α)}, (∀ e ∈ kn, e.1 ≠ k) → (insK k v kn).Perm (kn ++ [(k, v)])
  | [], _ => List.Perm.refl _
  | (k', v') :: r, h => by
    unfold insK
    split
    · exact (List.perm_append_comm (l₁ := [(k, v)]) (l₂ := (k', v') :: r))
    · split
      · rename_i c
        exact absurd c.symm (h _ (List.mem_cons_self ..))
      · exact (insK_perm fun e he => h e (List.mem_cons_of_mem _ he)).cons _
theorem insK_old {α : Type} {k : Int} {v : α} : ∀ {kn : List (Int × α)}, (kn.map (·.1)).Pairwise (· < ·) → (∃ e ∈ kn, e.1 = k) → insK k v kn = kn.map fun e => if e.1 = k then (e.1, v) else e
  | [], _, ⟨e, h, _⟩ => nomatch h
  | (k', v') :: r, h, ⟨e, he, ek⟩ => by
    rw [List.map_cons, List.pairwise_cons] at h
    unfold insK
    by_cases c : k = k'
    · subst c
      rw [if_neg (Int.lt_irrefl _), if_pos rfl, List.map_cons, if_pos rfl]
      have : r.map (fun e => if e.1 = k then (e.1, v) else e) = r := by
        refine (List.map_congr_left fun e he => ?_).trans (List.map_id r)
        have := h.1 e.1 (List.mem_map.mpr ⟨e, he, rfl⟩)
        rw [if_neg (by show ¬ e.1 = k; omega)]
        rfl
      rw [this]
    · have he' : e ∈ r := by
        rcases List.mem_cons.mp he with rfl | he
        · exact absurd ek.symm c
        · exact he
      have lt : k' < k := by
        have := h.1 e.1 (List.mem_map.mpr ⟨e, he', rfl⟩)
        omega
      rw [if_neg (by omega), if_neg c, List.map_cons, if_neg (fun z => c z.symm), insK_old h.2 ⟨e, he', ek⟩]
/-- a dict's store, in order again -/
theorem put_ins {α : Type} {k : Int} {v : α} {kn : List (Int × α)} (h : (kn.map (·.1)).Pairwise (· < ·)) {m : List (Int × α)}
    (e : m = if (kn.any fun e => decide (e.1 = k)) = true then kn.map (fun e => if e.1 = k then (e.1, v) else e) else kn ++ [(k, v)]) {l : List (Int × α)} (p : l.Perm m) (hl : (l.map (·.1)).Pairwise (· < ·)) : l = insK k v kn := by
  subst e
  by_cases c : (kn.any fun e => decide (e.1 = k)) = true
  · rw [if_pos c] at p
    obtain ⟨x, hx, ex⟩ := List.any_eq_true.mp c
    have z := insK_old (v := v) h ⟨x, hx, of_decide_eq_true ex⟩
    rw [← z] at p
    exact rise_uniq p hl (insK_rise h)
  · rw [if_neg c] at p
    have n : ∀ e ∈ kn, e.1 ≠ k := fun e he z => c (List.any_eq_true.mpr ⟨e, he, decide_eq_true z⟩)
    exact rise_uniq (p.trans (insK_perm n).symm) hl (insK_rise h)
theorem insK_map {α β : Type} (f : α → β) (k : Int) (v : α) : ∀ kn : List (Int × α), (insK k v kn).map (fun e => (e.1, f e.2)) = insK k (f v) (kn.map fun e => (e.1, f e.2))
  | [] => rfl
  | (k', v') :: r => by
    show (insK k v ((k', v') :: r)).map _ = insK k (f v) ((k', f v') :: r.map fun e => (e.1, f e.2))
    unfold insK
    by_cases c1 : k < k'
    · rw [if_pos c1, if_pos c1]; rfl
    · rw [if_neg c1, if_neg c1]
      by_cases c2 : k = k'
      · rw [if_pos c2, if_pos c2]; rfl
      · rw [if_neg c2, if_neg c2, List.map_cons, insK_map f k v r]
theorem Ku.keys {K : PySem.W.Frag} {H : Hp} : ∀ {kn : List (Int × List Int)} {ku : List (Int × Addr)}, Ku K H kn ku → ku.map (·.1) = kn.map (·.1)
  | _, _, .nil => rfl
  | _, _, .cons h r => by rw [List.map_cons, List.map_cons, h.1, Ku.keys r]
theorem Ku.len {K : PySem.W.Frag} {H : Hp} {kn : List (Int × List Int)} {ku : List (Int × Addr)} (h : Ku K H kn ku) : kn.length = ku.length := Paired.length h
theorem Ku.look {K : PySem.W.Frag} {H : Hp} (k : Int) : ∀ {kn : List (Int × List Int)} {ku : List (Int × Addr)}, Ku K H kn ku → (kn.lookup k = none ∧ ku.lookup k = none) ∨ ∃ v u, kn.lookup k = some v ∧ ku.lookup k = some u ∧ SqT K H u (v.map V.int)
  | _, _, .nil => .inl ⟨rfl, rfl⟩
  | (k1, v) :: kn, (k2, u) :: ku, .cons ⟨h, hs⟩ r => by
    simp only at h hs
    subst h
    by_cases c : k = k1
    · subst c
      exact .inr ⟨v, u, by simp [List.lookup], by simp [List.lookup], hs⟩
    · have c1 : (k == k1) = false := beq_eq_false_iff_ne.mpr c
      rcases Ku.look k r with ⟨a, b⟩ | ⟨v', u', a, b, d⟩
      · exact .inl ⟨by simp [List.lookup, c1, a], by simp [List.lookup, c1, b]⟩
      · exact .inr ⟨v', u', by simp [List.lookup, c1, a], by simp [List.lookup, c1, b], d⟩
theorem Ku.ins {K : PySem.W.Frag} {H : Hp} {k : Int} {v : List Int} {u : Addr} (hs : SqT K H u (v.map V.int)) : ∀ {kn : List (Int × List Int)} {ku : List (Int × Addr)}, Ku K H kn ku → Ku K H (insK k v kn) (insK k u ku)
  | _, _, .nil => .cons ⟨rfl, hs⟩ .nil
  | (k1, v1) :: kn, (k2, u1) :: ku, .cons ⟨h, h1⟩ r => by
    simp only at h h1
    subst h
    unfold insK
    by_cases c1 : k < k1
    · rw [if_pos c1, if_pos c1]
      exact .cons ⟨rfl, hs⟩ (.cons ⟨rfl, h1⟩ r)
    · rw [if_neg c1, if_neg c1]
      by_cases c2 : k = k1
      · rw [if_pos c2, if_pos c2]
        exact .cons ⟨rfl, hs⟩ r
      · rw [if_neg c2, if_neg c2]
        exact .cons ⟨rfl, h1⟩ (Ku.ins hs r)
/-- as a dict's pairs -/
def dk (ku : List (Int × Addr)) : List (Key × V) := ku.map fun e => (Sum.inl e.1, V.ref e.2)
def dput (ku : List (Int × Addr)) (k : Int) (u : Addr) : List (Int × Addr) := if (ku.any fun e => decide (e.1 = k)) = true then ku.map (fun e => if e.1 = k then (e.1, u) else e) else ku ++ [(k, u)]
theorem any_dk (k : Int) : ∀ ku : List (Int × Addr), ((dk ku).any fun kv => decide (kv.1 = Sum.inl k)) = ku.any fun e => decide (e.1 = k)
  | [] => rfl
  | (a, b) :: r => by
    show (decide ((Sum.inl a : Key) = Sum.inl k) || (dk r).any _) = (decide (a = k) || r.any _)
    rw [any_dk k r, key_ll, Bool.beq_eq_decide_eq]
theorem put_dk (ku : List (Int × Addr)) (k : Int) (u : Addr) : putK (dk ku) (Sum.inl k : Key) (V.ref u) = dk (dput ku k u) := by
  unfold putK dput
  rw [any_dk]
  split
  · unfold dk
    rw [List.map_map, List.map_map]
    refine List.map_congr_left fun e _ => ?_
    show (if (Sum.inl e.1 : Key) = Sum.inl k then (Sum.inl e.1, V.ref u) else (Sum.inl e.1, V.ref e.2)) = _
    by_cases c : e.1 = k
    · rw [if_pos (congrArg Sum.inl c)]
      show _ = (fun e : Int × Addr => ((Sum.inl e.1 : Key), V.ref e.2)) (if e.1 = k then (e.1, u) else e)
      rw [if_pos c]
    · rw [if_neg (fun z => c (Sum.inl.inj z))]
      show _ = (fun e : Int × Addr => ((Sum.inl e.1 : Key), V.ref e.2)) (if e.1 = k then (e.1, u) else e)
      rw [if_neg c]
  · unfold dk
    rw [List.map_append]
    rfl
theorem val_dk (k : Int) : ∀ ku : List (Int × Addr), valV (dk ku) (Sum.inl k : Key) = (ku.lookup k).map V.ref
  | [] => rfl
  | (a, b) :: r => by
    by_cases c : a = k
    · subst c
      show valV ((Sum.inl a, V.ref b) :: dk r) _ = _
      rw [valV_pos rfl]
      simp [List.lookup]
    · show valV ((Sum.inl a, V.ref b) :: dk r) _ = _
      rw [valV_neg (fun z => c (Sum.inl.inj z)), val_dk k r]
      have : (k == a) = false := beq_eq_false_iff_ne.mpr (Ne.symm c)
      simp [List.lookup, this]
theorem merge_new : ∀ (more kvs : List (Key × V)), ((kvs ++ more).map (·.1)).Nodup → mergeK kvs more = kvs ++ more
  | [], kvs, _ => by rw [List.append_nil]; rfl
  | p :: r, kvs, h => by
    have e : putK kvs p.1 p.2 = kvs ++ [p] := by
      unfold putK
      rw [if_neg]
      intro c
      obtain ⟨x, hx, ex⟩ := List.any_eq_true.mp c
      have ex := of_decide_eq_true ex
      rw [List.map_append, List.nodup_append] at h
      exact h.2.2 x.1 (List.mem_map.mpr ⟨x, hx, rfl⟩) p.1 (by rw [List.map_cons]; exact List.mem_cons_self ..) ex
    show mergeK (putK kvs p.1 p.2) r = _
    rw [e, merge_new r (kvs ++ [p]) (by rw [List.append_assoc]; exact h), List.append_assoc]
    rfl
theorem rise_nodup {l : List Int} (h : l.Pairwise (· < ·)) : l.Nodup := List.Pairwise.imp (fun h => Int.ne_of_lt h) h
theorem merge_dk {ku : List (Int × Addr)} (h : (ku.map (·.1)).Pairwise (· < ·)) : mergeK [] (dk ku) = dk ku := by
  refine merge_new _ _ ?_
  show ((dk ku).map (·.1)).Nodup
  have e : (dk ku).map (·.1) = (ku.map (·.1)).map (Sum.inl : Int → Key) := by
    unfold dk
    rw [List.map_map, List.map_map]
    rfl
  rw [e]
  exact List.pairwise_map.mpr ((rise_nodup h).imp fun h z => h (Sum.inl.inj z))
abbrev rv (e : Int × Addr) : Int × V := (e.1, V.ref e.2)
theorem pr_zs {K : PySem.W.Frag} {H : Hp} : ∀ {zs : List (Addr × Int × V)} {m : List (Int × Addr)}, zs.map (·.2) = m.map rv → (∀ z ∈ zs, SqT K H z.1 [.int z.2.1, z.2.2]) → Paired (fun (p : Addr) (e : Int × Addr) => SqT K H p [.int e.1, .ref e.2]) (zs.map (·.1)) m
  | [], [], _, _ => .nil
  | [], _ :: _, h, _ => by simp at h
  | _ :: _, [], h, _ => by simp at h
  | z :: zs, e :: m, h, hz => by
    rw [List.map_cons, List.map_cons] at h
    injection h with h1 h2
    have a := hz z (List.mem_cons_self ..)
    rw [h1] at a
    exact .cons a (pr_zs h2 fun z hz' => hz z (List.mem_cons_of_mem _ hz'))
theorem mem_lookup {α : Type} {k : Int} {v : α} : ∀ {l : List (Int × α)}, (l.map (·.1)).Nodup → ((k, v) ∈ l ↔ l.lookup k = some v)
  | [], _ => by simp
  | (a, b) :: r, h => by
    rw [List.map_cons, List.nodup_cons] at h
    rw [List.lookup_cons, List.mem_cons]
    by_cases c : k = a
    · subst c
      rw [beq_self_eq_true]
      constructor
      · rintro (e | e)
        · injection e with _ e; rw [e]
        · exact absurd (List.mem_map.mpr ⟨(k, v), e, rfl⟩) h.1
      · intro e
        rw [Option.some.inj e]
        exact .inl rfl
    · rw [beq_eq_false_iff_ne.mpr c]
      constructor
      · rintro (e | e)
        · injection e with e _; exact absurd e c
        · exact (mem_lookup h.2).mp e
      · intro e
        exact .inr ((mem_lookup h.2).mpr e)
theorem lookup_perm {α : Type} {k : Int} {l m : List (Int × α)} (p : l.Perm m) (h : (m.map (·.1)).Nodup) : l.lookup k = m.lookup k := by
  have hl : (l.map (·.1)).Nodup := ((p.map (·.1)).nodup_iff).mpr h
  cases e : m.lookup k with
  | some v => exact (mem_lookup hl).mp (p.mem_iff.mpr ((mem_lookup h).mpr e))
  | none =>
    cases e2 : l.lookup k with
    | none => rfl
    | some v =>
      rw [(mem_lookup h).mp (p.mem_iff.mp ((mem_lookup hl).mpr e2))] at e
      cases e
theorem dput_perm {ku : List (Int × Addr)} (h : (ku.map (·.1)).Pairwise (· < ·)) (k : Int) (u : Addr) : (insK k u ku).Perm (dput ku k u) := by
  unfold dput
  by_cases c : (ku.any fun e => decide (e.1 = k)) = true
  · rw [if_pos c]
    obtain ⟨x, hx, ex⟩ := List.any_eq_true.mp c
    rw [insK_old h ⟨x, hx, of_decide_eq_true ex⟩]
  · rw [if_neg c]
    exact insK_perm fun e he z => c (List.any_eq_true.mpr ⟨e, he, decide_eq_true z⟩)
theorem dput_nodup {ku : List (Int × Addr)} (h : (ku.map (·.1)).Pairwise (· < ·)) (k : Int) (u : Addr) : ((dput ku k u).map (·.1)).Nodup :=
  (((dput_perm h k u).map (·.1)).nodup_iff).mp (rise_nodup (insK_rise h))
end St

namespace St
open PySem PySem.Spec PyProof.Rows L2 TL
/-! ### the words of a guesser -/
def strN (n : Int) : Str := Str.ofString (toString n)
def wordsG : G → List Str
  | .leaf w ns => w :: ns.map strN
  | .both a b => "both" :: (wordsG a ++ wordsG b)
  | _ => []
theorem good_leaf {k : Nat} {w : Str} {ns : List Int} (h : good k (.leaf w ns) = true) : (w = "none" ∧ ns = []) ∨ ∃ n, ns = [n] ∧ (n = 1 ∨ n = 2 ∨ n = 3) ∧ (w = "next" ∨ w = "stride" ∨ w = "pairs") := by
  unfold good at h
  rw [Bool.or_eq_true] at h
  rcases h with h | h
  · exact .inl (of_decide_eq_true h)
  · cases ns with
    | nil => simp at h
    | cons n r =>
      cases r with
      | cons _ _ => simp at h
      | nil =>
        have h' := of_decide_eq_true h
        refine .inr ⟨n, rfl, ?_⟩
        rcases h' with ⟨rfl, h1, h2⟩ | ⟨rfl, h1, h2⟩ | ⟨rfl, h1, h2⟩
        · exact ⟨by omega, .inl rfl⟩
        · exact ⟨by omega, .inr (.inl rfl)⟩
        · exact ⟨by omega, .inr (.inr rfl)⟩
theorem len_app (x y : Str) : (x ++ y).length = x.length + y.length := by
  show (x ++ y).cps.size = x.cps.size + y.cps.size
  rw [show (x ++ y).cps = x.cps ++ y.cps from rfl, Array.size_append]
/-- how many signs and words -/
def wt (ws : List Str) : Nat := (ws.map (·.length)).sum + ws.length
theorem wt_append (a b : List Str) : wt (a ++ b) = wt a + wt b := by
  unfold wt
  rw [List.map_append, List.sum_append, List.length_append]
  omega
theorem wt_cons (a : Str) (b : List Str) : wt (a :: b) = a.length + 1 + wt b := by
  unfold wt
  rw [List.map_cons, List.sum_cons, List.length_cons]
  omega
theorem pow_ge (k : Nat) : 1 ≤ 2 ^ k := Nat.one_le_two_pow
theorem wt_words : ∀ (k : Nat) (g : G), good k g = true → wt (wordsG g) + 5 ≤ 14 * 2 ^ k
  | _, .nil, h => by simp [good] at h
  | _, .b1 _, h => by simp [good] at h
  | _, .b3 _ _ _, h => by simp [good] at h
  | 0, .both _ _, h => by simp [good] at h
  | k + 1, .both a b, h => by
    have h' : (good k a && good k b) = true := h
    rw [Bool.and_eq_true] at h'
    have ha := wt_words k a h'.1
    have hb := wt_words k b h'.2
    show wt ("both" :: (wordsG a ++ wordsG b)) + 5 ≤ 14 * 2 ^ (k + 1)
    rw [wt_cons, wt_append, Nat.pow_succ]
    have : ("both" : Str).length = 4 := rfl
    omega
  | k, .leaf w ns, h => by
    have p := pow_ge k
    have e : wt (wordsG (.leaf w ns)) ≤ 9 := by
      rcases good_leaf h with ⟨rfl, rfl⟩ | ⟨n, rfl, hn, hw⟩
      · decide
      · rcases hn with rfl | rfl | rfl <;> rcases hw with rfl | rfl | rfl <;> decide
    omega
theorem words_ne : ∀ (k : Nat) (g : G), good k g = true → wordsG g ≠ []
  | _, .nil, h => by simp [good] at h
  | _, .b1 _, h => by simp [good] at h
  | _, .b3 _ _ _, h => by simp [good] at h
  | _, .both _ _, _ => by unfold wordsG; simp
  | _, .leaf _ _, _ => by unfold wordsG; simp
theorem words_no32 : ∀ (k : Nat) (g : G), good k g = true → ∀ p ∈ wordsG g, (32 : Nat) ∉ tl p
  | _, .nil, h => by simp [good] at h
  | _, .b1 _, h => by simp [good] at h
  | _, .b3 _ _ _, h => by simp [good] at h
  | 0, .both _ _, h => by simp [good] at h
  | k + 1, .both a b, h => by
    have h' : (good k a && good k b) = true := h
    rw [Bool.and_eq_true] at h'
    intro p hp
    rcases List.mem_cons.mp (show p ∈ ("both" : Str) :: (wordsG a ++ wordsG b) from hp) with rfl | hp
    · decide
    · rcases List.mem_append.mp hp with hp | hp
      · exact words_no32 k a h'.1 p hp
      · exact words_no32 k b h'.2 p hp
  | k, .leaf w ns, h => by
    intro p hp
    rcases good_leaf h with ⟨rfl, rfl⟩ | ⟨n, rfl, hn, hw⟩
    · rcases List.mem_cons.mp (show p ∈ ("none" : Str) :: [] from hp) with rfl | hp
      · decide
      · cases hp
    · rcases List.mem_cons.mp (show p ∈ w :: [strN n] from hp) with rfl | hp
      · rcases hw with rfl | rfl | rfl <;> decide
      · rw [List.mem_singleton.mp hp]
        rcases hn with rfl | rfl | rfl <;> decide
/-! ### the text of a guesser, by the law -/
def textG : G → Str
  | .both a b => (((("both " : Str) ++ textG a) ++ (" " : Str)) ++ textG b)
  | g => Txt.join " " (wordsG g)
theorem joinL_append (S : List Nat) : ∀ (xs ys : List (List Nat)), xs ≠ [] → ys ≠ [] → joinL S (xs ++ ys) = joinL S xs ++ (S ++ joinL S ys)
  | [], _, h, _ => absurd rfl h
  | [x], y :: r, _, _ => rfl
  | [_], [], _, h => absurd rfl h
  | x :: z :: r, ys, _, h => by
    show x ++ (S ++ joinL S ((z :: r) ++ ys)) = (x ++ (S ++ joinL S (z :: r))) ++ (S ++ joinL S ys)
    rw [joinL_append S (z :: r) ys (by simp) h, List.append_assoc, List.append_assoc]
theorem str_ext {x y : Str} (h : tl x = tl y) : x = y := by
  obtain ⟨⟨a⟩⟩ := x
  obtain ⟨⟨b⟩⟩ := y
  have e : a = b := h
  rw [e]
theorem text_join : ∀ (k : Nat) (g : G), good k g = true → textG g = Txt.join " " (wordsG g)
  | _, .nil, h => by simp [good] at h
  | _, .b1 _, h => by simp [good] at h
  | _, .b3 _ _ _, h => by simp [good] at h
  | 0, .both _ _, h => by simp [good] at h
  | k + 1, .both a b, h => by
    have h' : (good k a && good k b) = true := h
    rw [Bool.and_eq_true] at h'
    have ha := text_join k a h'.1
    have hb := text_join k b h'.2
    have na := words_ne k a h'.1
    have nb := words_ne k b h'.2
    refine str_ext ?_
    show tl ((((("both " : Str) ++ textG a) ++ (" " : Str)) ++ textG b)) = _
    rw [ha, hb, tl_append, tl_append, tl_append, join_eq, join_eq, join_eq, tl_join, tl_join, tl_join]
    show _ = joinL (tl " ") (tl "both" :: (wordsG a ++ wordsG b).map tl)
    rw [List.map_append]
    have e := joinL_append (tl " ") [tl "both"] ((wordsG a).map tl ++ (wordsG b).map tl) (by simp) (by simp [na])
    rw [List.singleton_append] at e
    rw [e, joinL_append _ _ _ (by simpa using na) (by simpa using nb)]
    show (tl "both " ++ _ ++ tl " ") ++ _ = tl "both" ++ (tl " " ++ (_ ++ (tl " " ++ _)))
    rw [show tl ("both " : Str) = tl "both" ++ tl " " by decide]
    simp only [List.append_assoc]
  | _, .leaf _ _, _ => rfl
theorem join_len : ∀ (ws : List Str), (Txt.join " " ws).length ≤ wt ws := by
  intro ws
  rw [join_eq]
  induction ws with
  | nil => exact Nat.le_refl _
  | cons a r ih =>
    cases r with
    | nil =>
      rw [wt_cons]
      show a.length ≤ _
      omega
    | cons b r =>
      rw [wt_cons]
      show (a ++ " " ++ Str.join " " (b :: r)).length ≤ _
      rw [len_app, len_app]
      have : (" " : Str).length = 1 := rfl
      omega
theorem text_len {k : Nat} {g : G} (h : good k g = true) : (textG g).length + 5 ≤ 14 * 2 ^ k := by
  rw [text_join k g h]
  have a := join_len (wordsG g)
  have b := wt_words k g h
  omega
theorem read_back {k : Nat} {g : G} (h : good k g = true) : Txt.split (textG g) " " = wordsG g := by
  rw [text_join k g h]
  exact split_join (y := " ") (s := 32) (S := []) (by decide) (by decide +kernel) (words_ne k g h) (words_no32 k g h)
end St

namespace St
open PySem PySem.Spec PyProof.Rows L2
abbrev s_first_state : Stmt := topS 11
abbrev N_first_state : List Str := ["guesser"]
abbrev p_first_state : List Str := ["guesser"]
theorem sc_first_state : FnScope N_first_state p_first_state (defScope s_first_state) := ⟨rfl, rfl, rfl, by decide +kernel, rfl, by decide +kernel, by decide +kernel⟩
abbrev s_strided : Stmt := topS 12
abbrev N_strided : List Str := ["trust", "state", "place", "last", "stride", "times", "far"]
abbrev p_strided : List Str := ["trust", "state", "place"]
theorem sc_strided : FnScope N_strided p_strided (defScope s_strided) := ⟨rfl, rfl, rfl, by decide +kernel, rfl, by decide +kernel, by decide +kernel⟩
abbrev s_paired : Stmt := topS 13
abbrev N_paired : List Str := ["many", "state", "place", "last", "known", "behind", "others", "one"]
abbrev p_paired : List Str := ["many", "state", "place"]
theorem sc_paired : FnScope N_paired p_paired (defScope s_paired) := ⟨rfl, rfl, rfl, by decide +kernel, rfl, by decide +kernel, by decide +kernel⟩
abbrev s_stepped : Stmt := topS 14
abbrev N_stepped : List Str := ["guesser", "state", "place", "one", "mine", "other", "theirs", "k", "guess"]
abbrev p_stepped : List Str := ["guesser", "state", "place"]
theorem sc_stepped : FnScope N_stepped p_stepped (defScope s_stepped) := ⟨rfl, rfl, rfl, by decide +kernel, rfl, by decide +kernel, by decide +kernel⟩
section
variable {P : Program} {w : World} {K : PySem.W.Frag} {mg : Str → Option Value} {base : Heap} {f fS fP : Addr} {fd fdS fdP : FuncData}
def spFirst (K : PySem.W.Frag) (n : Nat) : Sp := fun vs H Q _ => ∃ (v : V) (g : G) (k : Nat), vs = [v] ∧ IsG K H g v ∧ good k g = true ∧ k < n ∧ k ≤ 3 ∧ ∀ v' H', Same H H' → IsS K H' (first0 g) v' → Q v' H'
theorem kn_nil {K : PySem.W.Frag} {H : Hp} {q : Addr} {o : Obj} (h : H q = some (.frz o (.tup []))) (d : o.dict = none) : IsKn K H [] q := ⟨o, [], [], h, d, .nil, .nil⟩
theorem ok_first_state (T : Nms mg) (D_first_state : Df K mg "first_state" s_first_state p_first_state f fd) : ∀ n : Nat, FnOk P w K mg base CX0 n f fd p_first_state (spFirst K n)
  | 0 => fn_zero fun vs H Q E ⟨v, g, k, _, _, _, h, _⟩ => by omega
  | n + 1 => by
    have G_first_state := ok_first_state T D_first_state n
    refine D_first_state.F.ok sc_first_state (fun vs H Q E h => ?_) (fun cdv A outer s H vs Q E hr h => ?_)
    · obtain ⟨r, m, wi, rfl, _⟩ := h
      rfl
    obtain ⟨v, g, k, rfl, hG, hg, hk, hk3, q⟩ := h
    refine ⟨_, (pss_cons (ps_if (pt_cmpR op_eq (pe_ix ix_tup (pv 0) pe_int (fun _ _ => rfl)) pe_str (nomark _))
    (pss_one (ps_ret (pe_tup (pa_cons (pe_call G_first_state (hr.mono (by first | decide | omega)) (by rfl) D_first_state.m D_first_state.F.kp D_first_state.b .nil pass0 (pa_cons (pe_ix ix_tup (pv 0) pe_int (fun _ _ => rfl)) pa_nil)) (pa_cons (pe_call G_first_state (hr.mono (by first | decide | omega)) (by rfl) D_first_state.m D_first_state.F.kp D_first_state.b .nil pass0 (pa_cons (pe_ix ix_tup (pv 0) pe_int (fun _ _ => rfl)) pa_nil)) pa_nil)))))
    (pss_nil))
  (pss_one (ps_ret (pe_ifExp (pt_cmpR op_eq (pe_ix ix_tup (pv 0) pe_int (fun _ _ => rfl)) pe_str (nomark _)) (pe_tup (pa_cons pe_non (pa_cons pe_int (pa_cons pe_int pa_nil)))) (pe_tup (pa_cons pe_non (pa_cons (pe_tupF pa_nil) pa_nil))))))), ?_⟩
    cases g with
    | leaf z ns =>
      obtain ⟨p, rfl, hp⟩ := hG
      have hz : z ≠ ("both" : Str) := (isG_good k _ hg hk3).2
      and_intros
      refine iteB0 (decide_eq_false fun x => hz (V.str.inj x)) ?_
      and_intros
      by_cases c : z = "stride"
      · refine iteB (decide_eq_true (congrArg V.str c)) ?_
        and_intros
        intro p1 n1
        exact q _ _ (same_upd n1) (by rw [show first0 (.leaf z ns) = .str none 0 0 from if_pos c]; exact ⟨p1, rfl, sqt upd_same⟩)
      · refine iteB0 (decide_eq_false fun x => c (V.str.inj x)) ?_
        and_intros
        intro p1 o1 n1 d1
        and_intros
        intro p2 n2
        refine q _ _ (by ac_rfl) ?_
        rw [show first0 (.leaf z ns) = .prs none [] from if_neg c]
        exact ⟨p2, p1, rfl, sqt upd_same, kn_nil (by infer_instance) d1⟩
    | both a b =>
      cases k with
      | zero => simp [good] at hg
      | succ k =>
      obtain ⟨p, x, y, rfl, hp, ha, hb⟩ := hG
      have h' : (good k a && good k b) = true := hg
      rw [Bool.and_eq_true] at h'
      and_intros
      refine ⟨x, a, k, rfl, ha, h'.1, by omega, by omega, fun v1 H1 s1 i1 => ?_⟩
      have hp1 := same_t s1 hp
      and_intros
      refine ⟨y, b, k, rfl, hb.same s1, h'.2, by omega, by omega, fun v2 H2 s2 i2 => ?_⟩
      and_intros
      intro p3 n3
      exact q _ _ (by ac_rfl) ⟨p3, v1, v2, rfl, sqt upd_same, (i1.same s2).same (same_upd n3), i2.same (same_upd n3)⟩
    | _ => simp [good] at hg
/-- what a step tells -/
def StepQ (K : PySem.W.Frag) (H : Hp) (Q : VK) (r : Sg × List Int) : Prop := ∀ (q l : Addr) (v : V) (H' : Hp), Same H H' → H l = none → IsS K H' r.1 v → H' l = some (.lst (r.2.map V.int)) → H' q = some (.tup [v, .ref l]) → Q (.ref q) H'
def spStrided (K : PySem.W.Frag) : Sp := fun vs H Q _ => ∃ (v : V) (l : Option Int) (tr st t p : Int), vs = [.int tr, v, .int p] ∧ IsS K H (.str l st t) v ∧ StepQ K H Q (strStep tr l st t p)
theorem ok_strided (T : Nms mg) (F : Fun K "strided" "strided" s_strided f fd) : FnOk P w K mg base CX0 1 f fd p_strided (spStrided K) := by
  refine F.ok sc_strided (fun vs H Q E h => ?_) (fun cdv A outer s H vs Q E hr h => ?_)
  · obtain ⟨v, l, tr, st, t, p, rfl, _⟩ := h
    rfl
  obtain ⟨v, l, tr, st, t, p, rfl, ⟨a, rfl, ha⟩, q⟩ := h
  refine ⟨_, (pss_cons (ps_asg (pv 1) (pg_tup rfl (pgs_cons (pg_name (i := 3) sc_strided.nd rfl (Or.inl rfl)) (pgs_cons (pg_name (i := 4) sc_strided.nd rfl (Or.inl rfl)) (pgs_cons (pg_name (i := 5) sc_strided.nd rfl (Or.inl rfl)) pgs_nil)))))
  (pss_cons (ps_if (pt_cmpR op_isN (pv 3) pe_non (nomark _))
    (pss_one (ps_ret (pe_tup (pa_cons (pe_tup (pa_cons (pv 2) (pa_cons pe_int (pa_cons pe_int pa_nil)))) (pa_cons (pe_lst pa_nil) pa_nil)))))
    (pss_nil))
  (pss_cons (ps_set (i := 6) sc_strided.nd rfl (Or.inl rfl) (pe_op op_sub (pv 2) (pv 3)))
  (pss_cons (ps_set (i := 5) sc_strided.nd rfl (Or.inl rfl) (pe_ifExp (pt_cmpR op_eq (pv 6) (pv 4) (nomark _)) (pe_op op_add (pv 5) pe_int) pe_int))
  (pss_one (ps_ret (pe_tup (pa_cons (pe_tup (pa_cons (pv 2) (pa_cons (pv 6) (pa_cons (pv 5) pa_nil)))) (pa_cons (pe_ifExp (PW.pt (pw_and (pt_cmpR op_ne (pv 6) pe_int (nomark _)) (pw_and1 (pt_cmpR op_ge (pv 5) (pv 0) (nomark _))))) (pe_lst (pa_cons (pe_op op_add (pv 2) (pv 6)) pa_nil)) (pe_lst pa_nil)) pa_nil))))))))), ?_⟩
  cases l with
  | none =>
    refine ⟨_, rfl, a, _, rfl, ha, rfl, _, _, rfl, _, _, rfl, _, _, rfl, rfl, ?_⟩
    and_intros
    intro p1 n1
    and_intros
    intro l1 nl1
    and_intros
    intro p2 n2
    have z : H l1 = none := (same_upd n1).free nl1
    exact q p2 l1 (.ref p1) _ (by ac_rfl) z ⟨p1, rfl, (by infer_instance)⟩ (by infer_instance) upd_same
  | some x =>
    refine ⟨_, rfl, a, _, rfl, ha, rfl, _, _, rfl, _, _, rfl, _, _, rfl, rfl, ?_⟩
    and_intros
    have q0 : StepQ K H Q (.str (some p) (p - x) (if p - x = st then t + 1 else 1), if p - x ≠ 0 ∧ tr ≤ (if p - x = st then t + 1 else 1) then [p + (p - x)] else []) := q
    have fin : ∀ t' : Int, StepQ K H Q (.str (some p) (p - x) t', if p - x ≠ 0 ∧ tr ≤ t' then [p + (p - x)] else []) →
        tRet (tTup (tCons (tTup (tCons (tVar 2) (tCons (tVar 6) (tCons (tVar 5) tNil)))) (tCons (tIf (tAnd (tTest (tOp rNe (tVar 6) (tC (.int 0)))) (tTest (tOp (rI0 fun i j => .bl (decide (j ≤ i))) (tVar 5) (tVar 0)))) (tLst (tCons (tOp (rI0 fun i j => .int (i + j)) (tVar 2) (tVar 6)) tNil)) (tLst tNil)) tNil)))
          { nx := fun _ H' => Q .non H', rt := Q } [some (.int tr), some (.ref a), some (.int p), some (.int x), some (.int st), some (.int t'), some (.int (p - x))] H := fun t' q1 => by
      and_intros
      intro p1 n1
      and_intros
      by_cases c1 : p - x = 0
      · refine iteB0 (by rw [decide_eq_true (congrArg V.int c1)]; rfl) ?_
        refine iteB0 rfl ?_
        rw [if_neg (fun z => z.1 c1)] at q1
        and_intros
        intro l1 nl1
        and_intros
        intro p2 n2
        exact q1 p2 l1 (.ref p1) _ (by ac_rfl) ((same_upd n1).free nl1) ⟨p1, rfl, (by infer_instance)⟩ (by infer_instance) upd_same
      · refine iteB (by rw [decide_eq_false fun z => c1 (V.int.inj z)]; rfl) ?_
        and_intros
        by_cases c2 : tr ≤ t'
        · refine iteB (decide_eq_true c2) ?_
          rw [if_pos ⟨c1, c2⟩] at q1
          and_intros
          intro l1 nl1
          and_intros
          intro p2 n2
          exact q1 p2 l1 (.ref p1) _ (by ac_rfl) ((same_upd n1).free nl1) ⟨p1, rfl, (by infer_instance)⟩ (by infer_instance) upd_same
        · refine iteB0 (decide_eq_false c2) ?_
          rw [if_neg (fun z => c2 z.2)] at q1
          and_intros
          intro l1 nl1
          and_intros
          intro p2 n2
          exact q1 p2 l1 (.ref p1) _ (by ac_rfl) ((same_upd n1).free nl1) ⟨p1, rfl, (by infer_instance)⟩ (by infer_instance) upd_same
    by_cases c : p - x = st
    · rw [if_pos c] at q0
      refine iteB (decide_eq_true (congrArg V.int c)) ?_
      refine ⟨_, rfl, _, _, rfl, rfl, ?_⟩
      exact fin _ q0
    · rw [if_neg c] at q0
      refine iteB0 (decide_eq_false fun e => c (V.int.inj e)) ?_
      exact fin _ q0
/-! ### pairs -/
theorem pr_dk {K : PySem.W.Frag} {H : Hp} : ∀ {ps : List Addr} {ku : List (Int × Addr)}, Paired (fun (p : Addr) (e : Int × Addr) => SqT K H p [.int e.1, .ref e.2]) ps ku → Paired (fun (p : Addr) (kv : Key × V) => SqT K H p [kV kv.1, kv.2]) ps (dk ku)
  | _, _, .nil => .nil
  | _, _, .cons h r => .cons h (pr_dk r)
def spPaired (K : PySem.W.Frag) : Sp := fun vs H Q _ => ∃ (v : V) (l : Option Int) (many : Int) (kn : List (Int × List Int)) (p : Int) (N : Nat), vs = [.int many, v, .int p] ∧ IsS K H (.prs l kn) v ∧ 1 ≤ many ∧ many ≤ 3 ∧ okS N (.prs l kn) ∧ N ≤ 10000 ∧
  StepQ K H Q (.prs (some p) (knStep many l kn p), lookK (knStep many l kn p) p)
theorem ok_paired (T : Nms mg) (F : Fun K "paired" "paired" s_paired f fd) : FnOk P w K mg base CX0 1 f fd p_paired (spPaired K) := by
  refine F.ok sc_paired (fun vs H Q E h => ?_) (fun cdv A outer s H vs Q E hr h => ?_)
  · obtain ⟨v, l, many, kn, p, N, rfl, _⟩ := h
    rfl
  obtain ⟨v, l, many, kn, p, N, rfl, ⟨a, b, rfl, ha, hk⟩, hm, hm3, hok, hN, q⟩ := h
  refine ⟨_, (pss_cons (ps_asg (pv 1) (pg_tup rfl (pgs_cons (pg_name (i := 3) sc_paired.nd rfl (Or.inl rfl)) (pgs_cons (pg_name (i := 4) sc_paired.nd rfl (Or.inl rfl)) pgs_nil))))
  (pss_cons (ps_set (i := 5) sc_paired.nd rfl (Or.inl rfl) (pe_callTy (call_dictT rfl) (by rfl) T.n_dict (by decide +kernel) (pa_cons (pv 4) pa_nil)))
  (Evl.pss_cut (ps_if (pt_cmpR op_notN (pv 3) pe_non (nomark _))
    (pss_cons (ps_setLc (i := 6) (own := [("one", 7)]) (g := gName 7) rfl sc_paired.nd rfl rfl (sw_true rfl rfl rfl (by decide +kernel)) (pi_tup (pe_dget2 (hu_of hr) (pv 5) (pv 3) (pe_tup pa_nil) ⟨rfl, rfl, rfl, rfl⟩)) (blkOk_by (own := [("one", 7)]) (N := N_paired) (sc := defScope s_paired) (by decide +kernel)) (fun _ _ _ _ _ => pg_name (i := 7) sc_paired.nd rfl (Or.inl rfl)) (fun _ _ _ _ _ => pts_one (pt_cmpR op_ne (pv 7) (pv 2) (nomark _))) (fun _ _ _ _ _ => (pv 7)))
    (pss_one (ps_dput (hu_of hr) (pv 5) (pv 3) (pe_callTy call_tuple_of (by rfl) T.n_tuple (by decide +kernel) (pa_cons (pe_op op_cat (pe_lst (pa_cons (pv 2) pa_nil)) (pe_slice sl_list (pv 6) po_none (po_some (pe_op op_sub (pv 0) pe_int)))) pa_nil)) rfl)))
    (pss_nil))
  (pss_one (ps_ret (pe_tup (pa_cons (pe_tup (pa_cons (pv 2) (pa_cons (pe_callTy call_tupF (by rfl) T.n_tuple (by decide +kernel) (pa_cons (pe_callB (cr_sortedItemsK rfl) (by rfl) T.n_sorted (by decide +kernel) (pa_cons (pe_bm0 PySem.F.plainAttrs_dict PySem.F.slot_dict_items PySem.F.type_dict_items mt_itemsK (pv 5)) pa_nil)) pa_nil)) pa_nil))) (pa_cons (pe_callTy call_list_of (by rfl) T.n_list (by decide +kernel) (pa_cons (pe_dget2 (hu_of hr) (pv 5) (pv 2) (pe_tup pa_nil) ⟨rfl, rfl, rfl, rfl⟩) pa_nil)) pa_nil)))))))), ?_⟩
  refine ⟨_, rfl, a, _, rfl, ha, rfl, _, _, rfl, _, _, rfl, rfl, ?_⟩
  and_intros
  obtain ⟨ob, ps, ku, e1, e2, e3, e4⟩ := hk
  obtain ⟨o1, o2, o3⟩ := hok
  have hrise : (ku.map (·.1)).Pairwise (· < ·) := by rw [e4.keys]; exact o2
  have hlen : ku.length ≤ N := by rw [← e4.len]; exact o1
  refine ⟨b, ob, ps, dk ku, rfl, e1, e2, ?_, fun D nD => ?_⟩
  · exact pr_dk e3
  rw [merge_dk hrise]
  have sD : Same H (upd H D (.dK (dk ku))) := same_upd nD
  have hD : (upd H D (.dK (dk ku))) D = some (.dK (dk ku)) := upd_same
  generalize upd H D (.dK (dk ku)) = H1 at sD hD ⊢
  refine ⟨fun σ' H' => ∃ y6 y7 mu, σ' = [some (.int many), some (.ref a), some (.int p), some (optV l), some (.ref b), some (.ref D), y6, y7] ∧ Same H H' ∧ H' D = some (.dK (dk mu)) ∧ (mu.map (·.1)).Nodup ∧
    ∀ m' : List (Int × Addr), m'.Perm mu → (m'.map (·.1)).Pairwise (· < ·) → Ku K H' (knStep many l kn p) m', ?_, fun σ' H' h => ?_⟩
  · cases l with
    | none =>
      and_intros
      refine ⟨none, none, ku, rfl, sD, hD, rise_nodup hrise, fun m' pm hm => ?_⟩
      rw [rise_uniq pm hm hrise]
      exact e4.imm (Imm.same sD)
    | some x =>
      and_intros
      refine ⟨.inl ⟨_, .inl hD⟩, _, rfl, ?_⟩
      and_intros
      intro p4 n4
      have hD4 : (upd H1 p4 (.tup [])) D = some (.dK (dk ku)) := same_upd n4 _ _ hD
      refine ⟨_, DGet.k (k := Sum.inl x) hD4, ?_⟩
      rw [val_dk]
      have e4' : Ku K (upd H1 p4 (.tup [])) kn ku := e4.imm (Imm.same (sD.trans (same_upd n4)))
      have sD4 : Same H (upd H1 p4 (.tup [])) := sD.trans (same_upd n4)
      have hemp : SqT K (upd H1 p4 (.tup [])) p4 [] := sqt upd_same
      generalize upd H1 p4 (.tup []) = H2 at hD4 e4' sD4 hemp ⊢
      obtain ⟨t, ht, hv⟩ : ∃ t, (((ku.lookup x).map V.ref).getD (.ref p4)) = .ref t ∧ SqT K H2 t ((lookK kn x).map V.int) := by
        rcases Ku.look x e4' with ⟨b1, b2⟩ | ⟨v, u, b1, b2, b3⟩
        · refine ⟨p4, by rw [b2]; rfl, ?_⟩
          unfold lookK
          rw [b1]
          exact hemp
        · refine ⟨u, by rw [b2]; rfl, ?_⟩
          unfold lookK
          rw [b1]
          exact b3
      rw [ht]
      have lk3 : (lookK kn x).length ≤ 3 := lookK_len o3 x
      refine ⟨t, rfl, ⟨_, hv⟩, fun L nL => ?_⟩
      refine lc_tup (xs := (lookK kn x).map V.int) (fun i H' => Same H2 H' ∧ H' L = some (.lst ((((lookK kn x).take i).filter fun e => decide (e ≠ p)).map V.int))) ⟨same_upd nL, upd_same⟩ (fun i H' _ h => same_t h.1 hv) (fun i y H' hi h => ?_) (fun H' h => ?_)
      · refine ⟨rfl, ?_⟩
        rw [List.getElem?_map] at hi
        cases e : (lookK kn x)[i]? with
        | none => rw [e] at hi; cases hi
        | some m =>
          rw [e] at hi
          cases Option.some.inj hi
          and_intros
          have tk : (lookK kn x).take (i + 1) = (lookK kn x).take i ++ [m] := by rw [List.take_add_one, e]; rfl
          have sz1 : (((lookK kn x).take i).filter fun e => decide (e ≠ p)).length ≤ 3 := Nat.le_trans (List.length_filter_le _ _) (by rw [List.length_take]; omega)
          by_cases c : m = p
          · refine iteB0 (by rw [decide_eq_true (congrArg V.int c)]; rfl) ?_
            refine ⟨h.1, ?_⟩
            rw [h.2, tk, List.filter_append, List.filter_cons, if_neg (by rw [decide_eq_false (fun z => z c)]; exact Bool.false_ne_true)]
            rw [List.filter_nil, List.append_nil]
          · refine iteB (by rw [decide_eq_false fun z => c (V.int.inj z)]; rfl) ?_
            refine ⟨_, rfl, _, h.2, by rw [List.length_map]; exact szl (by omega), same_mut h.1 nL, ?_⟩
            rw [upd_same, tk, List.filter_append, List.filter_cons, if_pos (decide_eq_true c), List.filter_nil, List.map_append]
            rfl
      · have tk : (lookK kn x).take (List.map V.int (lookK kn x)).length = lookK kn x := by rw [List.length_map]; exact List.take_length
        rw [tk] at h
        generalize hoth : ((lookK kn x).filter fun e => decide (e ≠ p)) = oth at h
        have lo : oth.length ≤ 3 := by rw [← hoth]; exact Nat.le_trans (List.length_filter_le _ _) lk3
        have hL : SqL K H' L (oth.map V.int) := sql h.2
        have dD : H' D = some (.dK (dk ku)) := h.1 _ _ hD4
        and_intros
        intro l1 n1
        have hL1 := same_l (same_upd (o := .lst [.int p]) n1) hL
        and_intros
        intro l2 n2
        have cutE : cutV (oth.map V.int) none (some (many - 1)) = (oth.take (many - 1).toNat).map V.int := by
          unfold cutV
          rw [HT.sIx_none]
          obtain ⟨mn, rfl⟩ : ∃ mn : Nat, many = (mn : Int) + 1 := ⟨(many - 1).toNat, by omega⟩
          have e : ((mn : Int) + 1 - 1) = ((mn : Nat) : Int) := by omega
          rw [e, HT.sIx_nat]
          rw [List.drop_zero, Int.toNat_natCast, ← List.map_take]
          congr 1
          rw [List.length_map]
          by_cases c : mn ≤ oth.length
          · rw [Nat.min_eq_left c]; rfl
          · rw [Nat.min_eq_right (by omega), List.take_of_length_le (by omega), List.take_of_length_le (by omega)]
        rw [cutE]
        have lt : (oth.take (many - 1).toNat).length ≤ 3 := by rw [List.length_take]; omega
        refine ⟨_, _, _, _, rfl, rfl, (by infer_instance), upd_same, by rw [List.length_map]; exact sz (by show 1 + _ ≤ _; omega), fun l3 n3 => ?_⟩
        refine ⟨l3, _, rfl, .inl ⟨sql upd_same, fun u nu => ?_⟩⟩
        have sF : Same H (upd (upd (upd (upd H' l1 (.lst [.int p])) l2 (.lst ((oth.take (many - 1).toNat).map V.int))) l3 (.lst ([.int p] ++ (oth.take (many - 1).toNat).map V.int))) u (.tup ([.int p] ++ (oth.take (many - 1).toNat).map V.int))) := by
          have z : Same H H' := sD4.trans h.1
          ac_rfl
        have dF : (upd (upd (upd (upd H' l1 (.lst [.int p])) l2 (.lst ((oth.take (many - 1).toNat).map V.int))) l3 (.lst ([.int p] ++ (oth.take (many - 1).toNat).map V.int))) u (.tup ([.int p] ++ (oth.take (many - 1).toNat).map V.int))) D = some (.dK (dk ku)) := by infer_instance
        have uF : (upd (upd (upd (upd H' l1 (.lst [.int p])) l2 (.lst ((oth.take (many - 1).toNat).map V.int))) l3 (.lst ([.int p] ++ (oth.take (many - 1).toNat).map V.int))) u (.tup ([.int p] ++ (oth.take (many - 1).toNat).map V.int))) u = some (.tup ((p :: oth.take (many - 1).toNat).map V.int)) := upd_same
        generalize (upd (upd (upd (upd H' l1 (.lst [.int p])) l2 (.lst ((oth.take (many - 1).toNat).map V.int))) l3 (.lst ([.int p] ++ (oth.take (many - 1).toNat).map V.int))) u (.tup ([.int p] ++ (oth.take (many - 1).toNat).map V.int))) = H7 at sF dF uF ⊢
        and_intros
        refine ⟨D, _, rfl, DPut.k (k := Sum.inl x) dF (by unfold dk; rw [List.length_map]; exact szl (by omega)), ?_⟩
        rw [put_dk]
        refine ⟨_, _, dput ku x u, rfl, same_mut sF nD, upd_same, dput_nodup hrise x u, fun m' pm hm => ?_⟩
        have em : m' = insK x u ku := rise_uniq (pm.trans (dput_perm hrise x u).symm) hm (insK_rise hrise)
        rw [em]
        have nuD : u ≠ D := ne_of uF dF (by intro z; cases z)
        have hu : SqT K (upd H7 D (.dK (dk (dput ku x u)))) u ((p :: oth.take (many - 1).toNat).map V.int) := sqt (by rw [upd_ne nuD]; exact uF)
        have hk7 : Ku K (upd H7 D (.dK (dk (dput ku x u)))) kn ku := e4.imm (Imm.same (same_mut sF nD))
        rw [← hoth] at hu
        exact Ku.ins hu hk7
  · obtain ⟨y6, y7, mu, rfl, s1, d1, nd, hmu⟩ := h
    and_intros
    refine ⟨.inr (.inr (.inl ⟨rfl, .inl ⟨_, d1⟩⟩)), D, _, rfl, rfl, d1, fun it nit => ?_⟩
    have nd' : ((mu.map rv).map (·.1)).Nodup := by
      rw [List.map_map]
      exact nd
    have d2 : (upd H' it (DX.itemsO it D)) D = some (.dK ((mu.map rv).map fun e => (Sum.inl e.1, e.2))) := by
      rw [List.map_map]
      exact same_upd nit _ _ d1
    refine ⟨it, D, mu.map rv, rfl, upd_same, d2, nd', fun H2 l2 zs s2 n2 pm hr e2 ez => ?_⟩
    obtain ⟨m', pm', em'⟩ := perm_lift rv pm mu rfl
    have hr' : (m'.map (·.1)).Pairwise (· < ·) := by
      have z : m'.map (·.1) = zs.map (·.2.1) := by
        have z := congrArg (List.map (·.1)) em'
        rw [List.map_map, List.map_map] at z
        exact z
      rw [z]
      exact hr
    have kk := hmu m' pm' hr'
    have i2 : Imm H' H2 := Imm.same ((same_upd nit).trans s2)
    have pr := pr_zs (K := K) (H := H2) em'.symm fun z hz => sqt (ez z hz)
    refine ⟨l2, _, rfl, sql e2, fun t o nt dt => ?_⟩
    have d3 : H2 D = some (.dK (dk mu)) := ((same_upd nit).trans s2) _ _ d1
    have ezs : zs.map (fun z => V.ref z.1) = (zs.map (·.1)).map V.ref := by rw [List.map_map]; rfl
    rw [ezs]
    and_intros
    intro p3 n3
    and_intros
    have d4 : (upd (upd H2 t (.frz o (.tup ((zs.map (·.1)).map V.ref)))) p3 (.tup [.int p, .ref t])) D = some (.dK (dk mu)) := by infer_instance
    refine ⟨.inl ⟨_, .inl d4⟩, _, rfl, ?_⟩
    and_intros
    intro p4 n4
    have d5 : (upd (upd (upd H2 t (.frz o (.tup ((zs.map (·.1)).map V.ref)))) p3 (.tup [.int p, .ref t])) p4 (.tup [])) D = some (.dK (dk mu)) := by infer_instance
    refine ⟨_, DGet.k (k := Sum.inl p) d5, ?_⟩
    rw [val_dk]
    have hK : IsKn K (upd H2 t (.frz o (.tup ((zs.map (·.1)).map V.ref)))) (knStep many l kn p) t := ⟨o, _, m', upd_same, dt, Paired.mapP pr fun _ _ z => same_t (same_upd nt) z, (kk.imm i2).imm (Imm.same (same_upd nt))⟩
    have sA : Same H (upd (upd H2 t (.frz o (.tup ((zs.map (·.1)).map V.ref)))) p3 (.tup [.int p, .ref t])) := by
      have z1 : Same H (upd H' it (DX.itemsO it D)) := s1.trans (same_upd nit)
      ac_rfl
    have hS : IsS K (upd (upd H2 t (.frz o (.tup ((zs.map (·.1)).map V.ref)))) p3 (.tup [.int p, .ref t])) (.prs (some p) (knStep many l kn p)) (.ref p3) := ⟨p3, t, rfl, sqt upd_same, hK.imm (Imm.same (same_upd n3))⟩
    have hlk : mu.lookup p = m'.lookup p := (lookup_perm pm' nd).symm
    have kk2 := ((kk.imm i2).imm (Imm.same (same_upd (o := .frz o (.tup ((zs.map (·.1)).map V.ref))) nt))).imm (Imm.same (same_upd (o := .tup [.int p, .ref t]) n3))
    rw [hlk]
    have done : ∀ (H5 : Hp) (l5 : Addr), Same (upd (upd H2 t (.frz o (.tup ((zs.map (·.1)).map V.ref)))) p3 (.tup [.int p, .ref t])) H5 → (upd (upd H2 t (.frz o (.tup ((zs.map (·.1)).map V.ref)))) p3 (.tup [.int p, .ref t])) l5 = none → H5 l5 = some (.lst ((lookK (knStep many l kn p) p).map V.int)) →
        [V.ref p3, V.ref l5].length ≤ sizeLine ∧ ∀ q5, H5 q5 = none → Q (.ref q5) (upd H5 q5 (.tup [.ref p3, .ref l5])) := fun H5 l5 s5 n5 e5 => by
      refine ⟨sz_2, fun q5 nq5 => ?_⟩
      exact q q5 l5 (.ref p3) _ ((sA.trans s5).trans (same_upd nq5)) (sA.free n5) ((hS.same s5).same (same_upd nq5)) (same_upd nq5 _ _ e5) upd_same
    rcases Ku.look p kk2 with ⟨b1, b2⟩ | ⟨v, u, b1, b2, b3⟩
    · rw [b2]
      refine ⟨p4, [], rfl, .inr (sqt upd_same), fun l5 nl5 => ?_⟩
      have z : Same (upd (upd H2 t (.frz o (.tup ((zs.map (·.1)).map V.ref)))) p3 (.tup [.int p, .ref t])) (upd (upd (upd (upd H2 t (.frz o (.tup ((zs.map (·.1)).map V.ref)))) p3 (.tup [.int p, .ref t])) p4 (.tup [])) l5 (.lst [])) := by ac_rfl
      refine done _ l5 z ((same_upd n4).free nl5) ?_
      rw [upd_same]
      unfold lookK
      rw [b1]
      rfl
    · rw [b2]
      refine ⟨u, _, rfl, .inr (same_t (same_upd n4) b3), fun l5 nl5 => ?_⟩
      have z : Same (upd (upd H2 t (.frz o (.tup ((zs.map (·.1)).map V.ref)))) p3 (.tup [.int p, .ref t])) (upd (upd (upd (upd H2 t (.frz o (.tup ((zs.map (·.1)).map V.ref)))) p3 (.tup [.int p, .ref t])) p4 (.tup [])) l5 (.lst (v.map V.int))) := by ac_rfl
      refine done _ l5 z ((same_upd n4).free nl5) ?_
      rw [upd_same]
      unfold lookK
      rw [b1]
      rfl
/-! ### a step of any guesser -/
theorem hd_good {k : Nat} {z : Str} {ns : List Int} (h : good k (.leaf z ns) = true) (hz : z ≠ ("none" : Str)) : ∃ n, ns = [n] ∧ 1 ≤ n ∧ n ≤ 3 := by
  rcases good_leaf h with ⟨e, _⟩ | ⟨n, e, hn, _⟩
  · exact absurd e hz
  · exact ⟨n, e, by omega, by omega⟩
theorem stepG_len : ∀ {k : Nat} {g : G} {s : Sg} {p : Int} {N : Nat}, good k g = true → Fit g s → okS N s → (stepG g s p).2.length ≤ 3 * 2 ^ k
  | _, .nil, _, _, _, h, _, _ => by simp [good] at h
  | _, .b1 _, _, _, _, h, _, _ => by simp [good] at h
  | _, .b3 _ _ _, _, _, _, h, _, _ => by simp [good] at h
  | 0, .both _ _, _, _, _, h, _, _ => by simp [good] at h
  | k + 1, .both a b, .both s t, p, N, h, f, o => by
    have h' : (good k a && good k b) = true := h
    rw [Bool.and_eq_true] at h'
    have ha := stepG_len (p := p) h'.1 f.1 o.1
    have hb := stepG_len (p := p) h'.2 f.2 o.2
    show ((stepG a s p).2 ++ (stepG b t p).2.filter _).length ≤ _
    have z := List.length_filter_le (fun e => decide (e ∉ (stepG a s p).2)) (stepG b t p).2
    rw [List.length_append, Nat.pow_succ]
    omega
  | _, .both _ _, .str _ _ _, _, _, _, f, _ => f.elim
  | _, .both _ _, .prs _ _, _, _, _, f, _ => f.elim
  | k, .leaf z ns, s, p, N, h, f, o => by
    have pw := pow_ge k
    by_cases c1 : z = "none"
    · have e : stepG (.leaf z ns) s p = (s, []) := if_pos c1
      rw [e]
      exact Nat.zero_le _
    · obtain ⟨n, rfl, h1, h3⟩ := hd_good h c1
      by_cases c2 : z = "next"
      · have e : stepG (.leaf z [n]) s p = (s, (List.range n.toNat).map fun (k : Nat) => p + (k : Int) + 1) := (if_neg c1).trans (if_pos c2)
        rw [e, List.length_map, List.length_range]
        omega
      · cases s with
        | both _ _ => exact f.elim
        | str l st t =>
          have e : stepG (.leaf z [n]) (.str l st t) p = strStep n l st t p := (if_neg c1).trans (if_neg c2)
          rw [e]
          have : (strStep n l st t p).2.length ≤ 1 := by
            unfold strStep
            cases l with
            | none => exact Nat.zero_le _
            | some x =>
              dsimp only
              split <;> (split <;> first | exact Nat.le_refl _ | exact Nat.zero_le _)
          omega
        | prs l kn =>
          have e : stepG (.leaf z [n]) (.prs l kn) p = (.prs (some p) (knStep n l kn p), lookK (knStep n l kn p) p) := (if_neg c1).trans (if_neg c2)
          rw [e]
          have := lookK_len (knStep_ok (many := n) h3 (p := p) o).2.2 p
          show (lookK _ _).length ≤ _
          omega
def spStepped (K : PySem.W.Frag) (n : Nat) : Sp := fun vs H Q _ => ∃ (v u : V) (g : G) (s : Sg) (p : Int) (k N : Nat), vs = [v, u, .int p] ∧ IsG K H g v ∧ IsS K H s u ∧ good k g = true ∧ k < n ∧ k ≤ 3 ∧ Fit g s ∧ okS N s ∧ N ≤ 10000 ∧ StepQ K H Q (stepG g s p)
theorem ok_stepped (T : Nms mg) (D_strided : Df K mg "strided" s_strided p_strided fS fdS) (D_paired : Df K mg "paired" s_paired p_paired fP fdP) (D_stepped : Df K mg "stepped" s_stepped p_stepped f fd) : ∀ n : Nat, FnOk P w K mg base CX0 (n + 1) f fd p_stepped (spStepped K n)
  | 0 => fn_zero fun vs H Q E ⟨v, u, g, s, p, k, N, _, _, _, _, h, _⟩ => by omega
  | n + 1 => by
    have G_stepped := ok_stepped T D_strided D_paired D_stepped n
    have G_strided : FnOk P w K mg base CX0 1 fS fdS p_strided (spStrided K) := ok_strided T D_strided.F
    have G_paired : FnOk P w K mg base CX0 1 fP fdP p_paired (spPaired K) := ok_paired T D_paired.F
    refine D_stepped.F.ok sc_stepped (fun vs H Q E h => ?_) (fun cdv A outer s H vs Q E hr h => ?_)
    · obtain ⟨v, u, g, s, p, k, N, rfl, _⟩ := h
      rfl
    obtain ⟨v, u, g, s, p, k, N, rfl, hG, hS, hg, hk, hk3, hf, ho, hN, q⟩ := h
    refine ⟨_, (pss_cons (ps_if (pt_cmpR op_eq (pe_ix ix_tup (pv 0) pe_int (fun _ _ => rfl)) pe_str (nomark _))
    (pss_one (ps_ret (pe_tup (pa_cons (pv 1) (pa_cons (pe_lst pa_nil) pa_nil)))))
    (pss_nil))
  (pss_cons (ps_if (pt_cmpR op_eq (pe_ix ix_tup (pv 0) pe_int (fun _ _ => rfl)) pe_str (nomark _))
    (pss_one (ps_ret (pe_tup (pa_cons (pv 1) (pa_cons (pe_lc (own := [("k", 7)]) (g := gName 7) rfl sc_stepped.nd (pi_range1 rfl T.n_range (pa_cons (pe_ix ix_tup (pv 0) pe_int (fun _ _ => rfl)) pa_nil)) (blkOk_by (own := [("k", 7)]) (N := N_stepped) (sc := defScope s_stepped) (by decide +kernel)) (fun _ _ _ _ _ => pg_name (i := 7) sc_stepped.nd rfl (Or.inl rfl)) (fun _ _ _ _ _ => pts_nil) (fun _ _ _ _ _ => (pe_op op_add (pe_op op_add (pv 2) (pv 7)) pe_int))) pa_nil)))))
    (pss_nil))
  (pss_cons (ps_if (pt_cmpR op_eq (pe_ix ix_tup (pv 0) pe_int (fun _ _ => rfl)) pe_str (nomark _))
    (pss_one (ps_ret (pe_call G_strided (hr.mono (by first | decide | omega)) (by rfl) D_strided.m D_strided.F.kp D_strided.b .nil pass0 (pa_cons (pe_ix ix_tup (pv 0) pe_int (fun _ _ => rfl)) (pa_cons (pv 1) (pa_cons (pv 2) pa_nil))))))
    (pss_nil))
  (pss_cons (ps_if (pt_cmpR op_eq (pe_ix ix_tup (pv 0) pe_int (fun _ _ => rfl)) pe_str (nomark _))
    (pss_one (ps_ret (pe_call G_paired (hr.mono (by first | decide | omega)) (by rfl) D_paired.m D_paired.F.kp D_paired.b .nil pass0 (pa_cons (pe_ix ix_tup (pv 0) pe_int (fun _ _ => rfl)) (pa_cons (pv 1) (pa_cons (pv 2) pa_nil))))))
    (pss_nil))
  (pss_cons (ps_asg (pe_call G_stepped (hr.mono (by first | decide | omega)) (by rfl) D_stepped.m D_stepped.F.kp D_stepped.b .nil pass0 (pa_cons (pe_ix ix_tup (pv 0) pe_int (fun _ _ => rfl)) (pa_cons (pe_ix ix_tup (pv 1) pe_int (fun _ _ => rfl)) (pa_cons (pv 2) pa_nil)))) (pg_tup rfl (pgs_cons (pg_name (i := 3) sc_stepped.nd rfl (Or.inl rfl)) (pgs_cons (pg_name (i := 4) sc_stepped.nd rfl (Or.inr rfl)) pgs_nil))))
  (pss_cons (ps_asg (pe_call G_stepped (hr.mono (by first | decide | omega)) (by rfl) D_stepped.m D_stepped.F.kp D_stepped.b .nil pass0 (pa_cons (pe_ix ix_tup (pv 0) pe_int (fun _ _ => rfl)) (pa_cons (pe_ix ix_tup (pv 1) pe_int (fun _ _ => rfl)) (pa_cons (pv 2) pa_nil)))) (pg_tup rfl (pgs_cons (pg_name (i := 5) sc_stepped.nd rfl (Or.inl rfl)) (pgs_cons (pg_name (i := 6) sc_stepped.nd rfl (Or.inl rfl)) pgs_nil))))
  (pss_one (ps_ret (pe_tup (pa_cons (pe_tup (pa_cons (pv 3) (pa_cons (pv 5) pa_nil))) (pa_cons (pe_op op_cat (pv 4) (pe_lc (own := [("guess", 8)]) (g := gName 8) rfl sc_stepped.nd (pi_list (pv 6)) (blkOk_by (own := [("guess", 8)]) (N := N_stepped) (sc := defScope s_stepped) (by decide +kernel)) (fun _ _ _ _ _ => pg_name (i := 8) sc_stepped.nd rfl (Or.inl rfl)) (fun _ _ _ _ _ => pts_one (pt_cmpR (notIn_seqK (K := K)) (pv 8) (pv 4) (by with_unfolding_all rfl))) (fun _ _ _ _ _ => (pv 8)))) pa_nil))))))))))), ?_⟩
    cases g with
    | leaf z ns =>
      obtain ⟨a, rfl, ha⟩ := hG
      have hz : z ≠ ("both" : Str) := (isG_good k _ hg hk3).2
      and_intros
      by_cases c1 : z = "none"
      · refine iteB (decide_eq_true (congrArg V.str c1)) ?_
        and_intros
        intro l1 n1
        and_intros
        intro p2 n2
        have q' : StepQ K H Q (s, []) := by rw [← show stepG (.leaf z ns) s p = (s, []) from if_pos c1]; exact q
        exact q' p2 l1 u _ (by ac_rfl) n1 (hS.same (by ac_rfl)) (by infer_instance) upd_same
      · refine iteB0 (decide_eq_false fun x => c1 (V.str.inj x)) ?_
        obtain ⟨m, rfl, m1, m3⟩ := hd_good hg c1
        and_intros
        by_cases c2 : z = "next"
        · refine iteB (decide_eq_true (congrArg V.str c2)) ?_
          and_intros
          intro D nD
          have q' : StepQ K H Q (s, (List.range m.toNat).map fun (k : Nat) => p + (k : Int) + 1) := by rw [← show stepG (.leaf z [m]) s p = (s, (List.range m.toNat).map fun (k : Nat) => p + (k : Int) + 1) from (if_neg c1).trans (if_pos c2)]; exact q
          refine lc_range (lo := 0) (n := m.toNat) (fun i H' => Same H H' ∧ H' D = some (.lst (((List.range i).map fun (k : Nat) => p + (k : Int) + 1).map V.int))) ⟨same_upd nD, upd_same⟩ (fun i H' hi h => ?_) (fun H' h => ?_)
          · and_intros
            refine ⟨_, h.2, by rw [List.length_map, List.length_map, List.length_range]; exact szl (by omega), same_mut h.1 nD, ?_⟩
            rw [upd_same, List.range_succ, List.map_append, List.map_append]
            have z : (p + (0 + (i : Int)) + 1) = p + (i : Int) + 1 := by omega
            simp only [z, List.map_cons, List.map_nil]
          · and_intros
            intro p2 n2
            exact q' p2 D u _ (h.1.trans (same_upd n2)) nD (hS.same (h.1.trans (same_upd n2))) (same_upd n2 _ _ h.2) upd_same
        · refine iteB0 (decide_eq_false fun x => c2 (V.str.inj x)) ?_
          and_intros
          cases s with
          | both _ _ => exact hf.elim
          | str l st t =>
            have c3 : z = "stride" := hf
            refine iteB (decide_eq_true (congrArg V.str c3)) ?_
            and_intros
            refine ⟨u, l, m, st, t, p, rfl, hS, ?_⟩
            rw [← show stepG (.leaf z [m]) (.str l st t) p = strStep m l st t p from (if_neg c1).trans (if_neg c2)]
            exact q
          | prs l kn =>
            have c3 : ¬ z = "stride" := hf
            refine iteB0 (decide_eq_false fun x => c3 (V.str.inj x)) ?_
            have c4 : z = "pairs" := by
              rcases good_leaf hg with ⟨e, _⟩ | ⟨_, _, _, e⟩
              · exact absurd e c1
              · rcases e with e | e | e
                · exact absurd e c2
                · exact absurd e c3
                · exact e
            and_intros
            refine iteB (decide_eq_true (congrArg V.str c4)) ?_
            and_intros
            refine ⟨u, l, m, kn, p, N, rfl, hS, m1, m3, ho, hN, ?_⟩
            rw [← show stepG (.leaf z [m]) (.prs l kn) p = (.prs (some p) (knStep m l kn p), lookK (knStep m l kn p) p) from (if_neg c1).trans (if_neg c2)]
            exact q
    | both a b =>
      cases k with
      | zero => simp [good] at hg
      | succ k =>
      have h' : (good k a && good k b) = true := hg
      rw [Bool.and_eq_true] at h'
      cases s with
      | str _ _ _ => exact hf.elim
      | prs _ _ => exact hf.elim
      | both s t =>
      obtain ⟨pa, x, y, rfl, hp, ha, hb⟩ := hG
      obtain ⟨pb, x', y', rfl, hp', ha', hb'⟩ := hS
      and_intros
      refine ⟨x, x', a, s, p, k, N, rfl, ha, ha', h'.1, by omega, by omega, hf.1, ho.1, hN, fun q1 l1 v1 H1 s1 n1 i1 e1 t1 => ?_⟩
      have hp1 := same_t s1 hp
      have hp1' := same_t s1 hp'
      refine ⟨q1, _, rfl, sqt t1, rfl, _, _, rfl, _, _, rfl, rfl, ?_⟩
      and_intros
      refine ⟨y, y', b, t, p, k, N, rfl, hb.same s1, hb'.same s1, h'.2, by omega, by omega, hf.2, ho.2, hN, fun q2 l2 v2 H2 s2 n2 i2 e2 t2 => ?_⟩
      refine ⟨q2, _, rfl, sqt t2, rfl, _, _, rfl, _, _, rfl, rfl, ?_⟩
      and_intros
      intro p3 n3
      and_intros
      refine ⟨⟨_, sql (same_upd n3 _ _ e2)⟩, fun L nL => ?_⟩
      have lm := stepG_len (p := p) h'.1 hf.1 ho.1
      have lt := stepG_len (p := p) h'.2 hf.2 ho.2
      have q' : StepQ K H Q (.both (stepG a s p).1 (stepG b t p).1, (stepG a s p).2 ++ (stepG b t p).2.filter fun e => decide (e ∉ (stepG a s p).2)) := q
      generalize (stepG a s p).2 = mine at e1 lm q'
      generalize (stepG b t p).2 = theirs at e2 lt q'
      have pw : 2 ^ k ≤ 4 := Nat.le_trans (Nat.pow_le_pow_right (by decide) (show k ≤ 2 by omega)) (by decide)
      have e1' : (upd H2 p3 (.tup [v1, v2])) l1 = some (.lst (mine.map V.int)) := same_upd n3 _ _ (s2 _ _ e1)
      have e2' : (upd H2 p3 (.tup [v1, v2])) l2 = some (.lst (theirs.map V.int)) := same_upd n3 _ _ e2
      have s3 : Same H (upd H2 p3 (.tup [v1, v2])) := (s1.trans s2).trans (same_upd n3)
      have t3 : (upd H2 p3 (.tup [v1, v2])) p3 = some (.tup [v1, v2]) := upd_same
      have i1' := (i1.same s2).same (same_upd (o := .tup [v1, v2]) n3)
      have i2' := i2.same (same_upd (o := .tup [v1, v2]) n3)
      generalize upd H2 p3 (.tup [v1, v2]) = H3 at e1' e2' s3 t3 i1' i2' nL ⊢
      refine lc_list (xs := theirs.map V.int) (fun i H' => Same H3 H' ∧ H' L = some (.lst (((theirs.take i).filter fun e => decide (e ∉ mine)).map V.int))) ⟨same_upd nL, upd_same⟩ (fun i H' _ h => sql (h.1 _ _ e2')) (fun i y H' hi h => ?_) (fun H' h => ?_)
      · obtain ⟨m, rfl, em, tk⟩ := at_ints hi
        and_intros
        refine ⟨l1, mine.map V.int, rfl, .inl (sql (h.1 _ _ e1')), rfl, flat_ints _, ?_⟩
        rw [inV_ints]
        by_cases c : m ∈ mine
        · rw [decide_eq_true c]
          refine ⟨_, rfl, iteB0 (b := !true) rfl ?_⟩
          refine ⟨h.1, ?_⟩
          rw [h.2, tk, filter_snoc, if_neg (by simp [c]), List.append_nil]
        · rw [decide_eq_false c]
          refine ⟨_, rfl, iteB (b := !false) rfl ?_⟩
          have z := List.length_filter_le (fun e => decide (e ∉ mine)) (theirs.take i)
          rw [List.length_take] at z
          refine ⟨_, rfl, _, h.2, by rw [List.length_map]; exact szl (by omega), same_mut h.1 nL, ?_⟩
          rw [upd_same, tk, filter_snoc, if_pos (by simp [c]), List.map_append]
          rfl
      · have tk : theirs.take (theirs.map V.int).length = theirs := by rw [List.length_map]; exact List.take_length
        rw [tk] at h
        have z := List.length_filter_le (fun e => decide (e ∉ mine)) theirs
        refine ⟨_, _, mine.map V.int, _, rfl, rfl, h.1 _ _ e1', h.2, by simp only [List.length_map]; exact sz (by omega), fun l4 n4 => ?_⟩
        and_intros
        intro p5 n5
        exact q' p5 l4 (.ref p3) _ ((s3.trans h.1).trans ((same_upd n4).trans (same_upd n5))) ((s3.trans h.1).free n4)
          ⟨p3, v1, v2, rfl, sqt (same_upd n5 _ _ (same_upd n4 _ _ (h.1 _ _ t3))), i1'.same (h.1.trans ((same_upd n4).trans (same_upd n5))), i2'.same (h.1.trans ((same_upd n4).trans (same_upd n5)))⟩
          (by rw [upd_ne (ne_of_none (upd_same (H := H')) n5), upd_same, List.map_append]) upd_same
    | _ => simp [good] at hg
end
end St

namespace St
open PySem PySem.Spec PyProof.Rows L2
theorem fit_first : ∀ {k : Nat} {g : G}, good k g = true → Fit g (first0 g)
  | _, .nil, h => by simp [good] at h
  | _, .b1 _, h => by simp [good] at h
  | _, .b3 _ _ _, h => by simp [good] at h
  | 0, .both _ _, h => by simp [good] at h
  | k + 1, .both a b, h => by
    have h' : (good k a && good k b) = true := h
    rw [Bool.and_eq_true] at h'
    exact ⟨fit_first h'.1, fit_first h'.2⟩
  | _, .leaf w ns, _ => by
    by_cases c : w = "stride"
    · rw [show first0 (.leaf w ns) = .str none 0 0 from if_pos c]
      exact c
    · rw [show first0 (.leaf w ns) = .prs none [] from if_neg c]
      exact c
theorem ok_first : ∀ (g : G), okS 0 (first0 g)
  | .nil => ⟨Nat.le_refl _, List.Pairwise.nil, fun _ h => nomatch h⟩
  | .b1 _ => ⟨Nat.le_refl _, List.Pairwise.nil, fun _ h => nomatch h⟩
  | .b3 _ _ _ => ⟨Nat.le_refl _, List.Pairwise.nil, fun _ h => nomatch h⟩
  | .both a b => ⟨ok_first a, ok_first b⟩
  | .leaf w ns => by
    by_cases c : w = "stride"
    · rw [show first0 (.leaf w ns) = .str none 0 0 from if_pos c]
      exact True.intro
    · rw [show first0 (.leaf w ns) = .prs none [] from if_neg c]
      exact ⟨Nat.le_refl _, List.Pairwise.nil, fun _ h => nomatch h⟩
theorem okS_le {N M : Nat} (h : N ≤ M) : ∀ {s : Sg}, okS N s → okS M s
  | .str _ _ _, _ => True.intro
  | .prs _ _, ⟨a, b, c⟩ => ⟨Nat.le_trans a h, b, c⟩
  | .both _ _, ⟨a, b⟩ => ⟨okS_le h a, okS_le h b⟩
theorem stepG_keeps : ∀ {k : Nat} {g : G} {s : Sg} {p : Int} {N : Nat}, good k g = true → Fit g s → okS N s → Fit g (stepG g s p).1 ∧ okS (N + 1) (stepG g s p).1
  | _, .nil, _, _, _, h, _, _ => by simp [good] at h
  | _, .b1 _, _, _, _, h, _, _ => by simp [good] at h
  | _, .b3 _ _ _, _, _, _, h, _, _ => by simp [good] at h
  | 0, .both _ _, _, _, _, h, _, _ => by simp [good] at h
  | k + 1, .both a b, .both s t, p, N, h, f, o => by
    have h' : (good k a && good k b) = true := h
    rw [Bool.and_eq_true] at h'
    have ha := stepG_keeps (p := p) h'.1 f.1 o.1
    have hb := stepG_keeps (p := p) h'.2 f.2 o.2
    exact ⟨⟨ha.1, hb.1⟩, ⟨ha.2, hb.2⟩⟩
  | _, .both _ _, .str _ _ _, _, _, _, f, _ => f.elim
  | _, .both _ _, .prs _ _, _, _, _, f, _ => f.elim
  | k, .leaf z ns, s, p, N, h, f, o => by
    by_cases c1 : z = "none"
    · have e : stepG (.leaf z ns) s p = (s, []) := if_pos c1
      rw [e]
      exact ⟨f, okS_le (Nat.le_succ _) o⟩
    · obtain ⟨n, rfl, h1, h3⟩ := hd_good h c1
      by_cases c2 : z = "next"
      · have e : stepG (.leaf z [n]) s p = (s, (List.range n.toNat).map fun (k : Nat) => p + (k : Int) + 1) := (if_neg c1).trans (if_pos c2)
        rw [e]
        exact ⟨f, okS_le (Nat.le_succ _) o⟩
      · cases s with
        | both _ _ => exact f.elim
        | str l st t =>
          have e : stepG (.leaf z [n]) (.str l st t) p = strStep n l st t p := (if_neg c1).trans (if_neg c2)
          rw [e]
          unfold strStep
          cases l with
          | none => exact ⟨f, True.intro⟩
          | some x => exact ⟨f, True.intro⟩
        | prs l kn =>
          have e : stepG (.leaf z [n]) (.prs l kn) p = (.prs (some p) (knStep n l kn p), lookK (knStep n l kn p) p) := (if_neg c1).trans (if_neg c2)
          rw [e]
          exact ⟨f, knStep_ok h3 o⟩
def stG (g : G) (ps : List Int) : Sg := ps.foldl (fun s p => (stepG g s p).1) (first0 g)
/-- what is guessed behind the last -/
def outG (g : G) : List Int → List (List Int) → Sg → List (List Int)
  | [], acc, _ => acc
  | p :: r, acc, s => outG g r (acc ++ [(stepG g s p).2]) (stepG g s p).1
/-- what is guessed behind each of them -/
def allG (g : G) (ps : List Int) : Nat → List (List Int)
  | 0 => []
  | i + 1 => allG g ps i ++ [(stepG g (stG g (ps.take i)) (ps.getD i 0)).2]
theorem stG_snoc (g : G) (ps : List Int) (p : Int) : stG g (ps ++ [p]) = (stepG g (stG g ps) p).1 := by
  unfold stG
  rw [List.foldl_append]
  rfl
theorem stG_keeps {k : Nat} {g : G} (h : good k g = true) (ps : List Int) : ∀ i : Nat, i ≤ ps.length → Fit g (stG g (ps.take i)) ∧ okS i (stG g (ps.take i))
  | 0, _ => ⟨by rw [List.take_zero]; exact fit_first h, by rw [List.take_zero]; exact ok_first g⟩
  | i + 1, hi => by
    have z := stG_keeps h ps i (by omega)
    have e : ps.take (i + 1) = ps.take i ++ [ps[i]] := by rw [List.take_add_one, List.getElem?_eq_getElem (by omega)]; rfl
    rw [e, stG_snoc]
    exact stepG_keeps h z.1 z.2
theorem allG_len (g : G) (ps : List Int) : ∀ i, (allG g ps i).length = i
  | 0 => rfl
  | i + 1 => by rw [allG, List.length_append, allG_len g ps i]; rfl
theorem allG_at (g : G) (ps : List Int) {i : Nat} : ∀ n, i < n → (allG g ps n)[i]? = some (stepG g (stG g (ps.take i)) (ps.getD i 0)).2
  | 0, h => absurd h (Nat.not_lt_zero _)
  | n + 1, h => by
    unfold allG
    by_cases c : i < n
    · rw [List.getElem?_append_left (by rw [allG_len]; exact c)]
      exact allG_at g ps n c
    · have e : i = n := by omega
      subst e
      rw [List.getElem?_append_right (by rw [allG_len]; exact Nat.le_refl _), allG_len, Nat.sub_self]
      rfl
end St

namespace St
open PySem PySem.Spec PyProof.Rows L2
abbrev s_laid : Stmt := topS 28
abbrev N_laid : List Str := ["house", "shelf", "place", "waits", "events"]
abbrev p_laid : List Str := ["house", "shelf", "place", "waits", "events"]
theorem sc_laid : FnScope N_laid p_laid (defScope s_laid) := ⟨rfl, rfl, rfl, by decide +kernel, rfl, by decide +kernel, by decide +kernel⟩
abbrev s_come : Stmt := topS 29
abbrev N_come : List Str := ["house", "shelf", "way", "events", "left", "place", "turns"]
abbrev p_come : List Str := ["house", "shelf", "way", "events"]
theorem sc_come : FnScope N_come p_come (defScope s_come) := ⟨rfl, rfl, rfl, by decide +kernel, rfl, by decide +kernel, by decide +kernel⟩
/-! ### the house -/
structure HouseC (K : PySem.W.Frag) (C : Addr) : Prop where
  cl : Cls K C
  places : NoAttr K C "places"
  room : NoAttr K C "room"
  late : NoAttr K C "late"
  most : NoAttr K C "most"
def hfl (pl rm lt ms : Int) : List (Str × V) := [("places", .int pl), ("room", .int rm), ("late", .int lt), ("most", .int ms)]
theorem hfl_places (pl rm lt ms : Int) : (hfl pl rm lt ms).lookup ("places" : Str) = some (.int pl) := by rfl
theorem hfl_room (pl rm lt ms : Int) : (hfl pl rm lt ms).lookup ("room" : Str) = some (.int rm) := by rfl
theorem hfl_late (pl rm lt ms : Int) : (hfl pl rm lt ms).lookup ("late" : Str) = some (.int lt) := by rfl
theorem hfl_most (pl rm lt ms : Int) : (hfl pl rm lt ms).lookup ("most" : Str) = some (.int ms) := by rfl
def IsH (C : Addr) (H : Hp) (h : Addr) (pl rm lt ms : Int) : Prop := ∃ dx, H h = some (.ins C dx (hfl pl rm lt ms))
theorem IsH.x {C : Addr} {H H' : Hp} {h r : Addr} {pl rm lt ms : Int} (e : IsH C H h pl rm lt ms) (s : SameX r H H') (l : LstAt H r) : IsH C H' h pl rm lt ms := by
  obtain ⟨dx, e⟩ := e
  obtain ⟨ys, l⟩ := l
  exact ⟨dx, s _ _ (fun z => by subst z; rw [l] at e; cases e) e⟩
theorem IsH.same {C : Addr} {H H' : Hp} {h : Addr} {pl rm lt ms : Int} (e : IsH C H h pl rm lt ms) (s : Same H H') : IsH C H' h pl rm lt ms := by
  obtain ⟨dx, e⟩ := e
  exact ⟨dx, s _ _ e⟩
/-! ### shelves, ways, events -/
abbrev Shelf := List (Int × Bool)
abbrev Way := List (Int × Int)
abbrev Evs := List (Str × Int)
def PrS (K : PySem.W.Frag) (H : Hp) (as : List Addr) (sh : Shelf) : Prop := Paired (fun (p : Addr) (e : Int × Bool) => SqT K H p [.int e.1, .bl e.2]) as sh
def PrW (K : PySem.W.Frag) (H : Hp) (as : List Addr) (wy : Way) : Prop := Paired (fun (p : Addr) (e : Int × Int) => SqT K H p [.int e.1, .int e.2]) as wy
def PrE (K : PySem.W.Frag) (H : Hp) (as : List Addr) (es : Evs) : Prop := Paired (fun (p : Addr) (e : Str × Int) => SqT K H p [.str e.1, .int e.2]) as es
def IsSh (K : PySem.W.Frag) (H : Hp) (a : Addr) (sh : Shelf) : Prop := ∃ as : List Addr, SqT K H a (as.map V.ref) ∧ PrS K H as sh
def IsWT (K : PySem.W.Frag) (H : Hp) (a : Addr) (wy : Way) : Prop := ∃ as : List Addr, SqT K H a (as.map V.ref) ∧ PrW K H as wy
def IsWL (K : PySem.W.Frag) (H : Hp) (a : Addr) (wy : Way) : Prop := ∃ as : List Addr, H a = some (.lst (as.map V.ref)) ∧ PrW K H as wy
def IsEv (K : PySem.W.Frag) (H : Hp) (a : Addr) (es : Evs) : Prop := ∃ as : List Addr, H a = some (.lst (as.map V.ref)) ∧ PrE K H as es
theorem IsEv.at_ {K : PySem.W.Frag} {H : Hp} {a : Addr} {es : Evs} (h : IsEv K H a es) : LstAt H a := by
  obtain ⟨as, h, _⟩ := h
  exact ⟨_, h⟩
theorem IsWL.at_ {K : PySem.W.Frag} {H : Hp} {a : Addr} {wy : Way} (h : IsWL K H a wy) : LstAt H a := by
  obtain ⟨as, h, _⟩ := h
  exact ⟨_, h⟩
theorem PrS.imm {K : PySem.W.Frag} {H H' : Hp} {as : List Addr} {sh : Shelf} (h : PrS K H as sh) (e : Imm H H') : PrS K H' as sh := Paired.mapP h fun _ _ z => e.t z
theorem PrW.imm {K : PySem.W.Frag} {H H' : Hp} {as : List Addr} {sh : Way} (h : PrW K H as sh) (e : Imm H H') : PrW K H' as sh := Paired.mapP h fun _ _ z => e.t z
theorem PrE.imm {K : PySem.W.Frag} {H H' : Hp} {as : List Addr} {sh : Evs} (h : PrE K H as sh) (e : Imm H H') : PrE K H' as sh := Paired.mapP h fun _ _ z => e.t z
theorem IsSh.imm {K : PySem.W.Frag} {H H' : Hp} {a : Addr} {sh : Shelf} (h : IsSh K H a sh) (e : Imm H H') : IsSh K H' a sh := by
  obtain ⟨as, h, p⟩ := h
  exact ⟨as, e.t h, p.imm e⟩
theorem IsWT.imm {K : PySem.W.Frag} {H H' : Hp} {a : Addr} {sh : Way} (h : IsWT K H a sh) (e : Imm H H') : IsWT K H' a sh := by
  obtain ⟨as, h, p⟩ := h
  exact ⟨as, e.t h, p.imm e⟩
theorem IsWL.x {K : PySem.W.Frag} {H H' : Hp} {a r : Addr} {sh : Way} (h : IsWL K H a sh) (n : a ≠ r) (e : SameX r H H') (l : LstAt H r) : IsWL K H' a sh := by
  obtain ⟨as, h, p⟩ := h
  exact ⟨as, e _ _ n h, p.imm (Imm.sameX e l)⟩
theorem IsWL.same {K : PySem.W.Frag} {H H' : Hp} {a : Addr} {sh : Way} (h : IsWL K H a sh) (e : Same H H') : IsWL K H' a sh := by
  obtain ⟨as, h, p⟩ := h
  exact ⟨as, e _ _ h, p.imm (Imm.same e)⟩
theorem IsEv.same {K : PySem.W.Frag} {H H' : Hp} {a : Addr} {es : Evs} (h : IsEv K H a es) (e : Same H H') : IsEv K H' a es := by
  obtain ⟨as, h, p⟩ := h
  exact ⟨as, e _ _ h, p.imm (Imm.same e)⟩
theorem IsEv.len {K : PySem.W.Frag} {H : Hp} {as : List Addr} {es : Evs} (p : PrE K H as es) : as.length = es.length := Paired.length p
/-- one more event -/
theorem IsEv.put {K : PySem.W.Frag} {H : Hp} {a p : Addr} {as : List Addr} {es : Evs} {x : Str} {i : Int} (h : H a = some (.lst (as.map V.ref))) (pe : PrE K H as es) (hp : SqT K H p [.str x, .int i]) : IsEv K (upd H a (.lst (as.map V.ref ++ [.ref p]))) a (es ++ [(x, i)]) :=
  ⟨as ++ [p], by rw [upd_same, List.map_append]; rfl, Paired.snoc (pe.imm (Imm.upd ⟨_, h⟩)) ((Imm.upd ⟨_, h⟩).t hp)⟩
theorem IsWL.put {K : PySem.W.Frag} {H : Hp} {a p : Addr} {as : List Addr} {es : Way} {x i : Int} (h : H a = some (.lst (as.map V.ref))) (pe : PrW K H as es) (hp : SqT K H p [.int x, .int i]) : IsWL K (upd H a (.lst (as.map V.ref ++ [.ref p]))) a (es ++ [(x, i)]) :=
  ⟨as ++ [p], by rw [upd_same, List.map_append]; rfl, Paired.snoc (pe.imm (Imm.upd ⟨_, h⟩)) ((Imm.upd ⟨_, h⟩).t hp)⟩
theorem pr_at {β : Type} {F : Addr → β → Prop} : ∀ {as : List Addr} {bs : List β} {i : Nat} {x : V}, Paired F as bs → (as.map V.ref)[i]? = some x → ∃ p b, x = .ref p ∧ F p b ∧ bs.take (i + 1) = bs.take i ++ [b] ∧ bs[i]? = some b
  | _, _, 0, _, .cons h _, e => ⟨_, _, (Option.some.inj e).symm, h, rfl, rfl⟩
  | _, _, i + 1, _, .cons _ t, e => by
    obtain ⟨p, b, h1, h2, h3, h4⟩ := pr_at (i := i) t e
    exact ⟨p, b, h1, h2, by rw [List.take_succ_cons, h3, List.take_succ_cons]; rfl, h4⟩
  | _, _, 0, _, .nil, e => nomatch e
  | _, _, _ + 1, _, .nil, e => nomatch e
/-! ### what they do -/
def laidP (room : Int) (sh : Shelf) (p : Int) (w : Bool) : Shelf × Evs :=
  if ((sh.length : Nat) : Int) = room then (match sh with
    | [] => ([(p, w)], [])
    | e :: r => (r ++ [(p, w)], [((if e.2 then "waste" else "leave" : Str), e.1)]))
  else (sh ++ [(p, w)], [])
def comeS (room : Int) (s : Shelf × Way × Evs) (e : Int × Int) : Shelf × Way × Evs :=
  if e.2 = 0 then ((laidP room s.1 e.1 true).1, s.2.1, s.2.2 ++ (laidP room s.1 e.1 true).2 ++ [(("come" : Str), e.1)]) else (s.1, s.2.1 ++ [(e.1, e.2 - 1)], s.2.2)
def comeP (room : Int) (sh : Shelf) (wy : Way) : Shelf × Way × Evs := wy.foldl (comeS room) (sh, [], [])
def askedP (room : Int) (sh : Shelf) (wy : Way) (p : Int) : Shelf × Way × Evs :=
  match sh.find? (fun e => decide (e.1 = p)) with
  | some e => (sh.filter (fun o => decide (o ≠ e)) ++ [(p, false)], wy, [((if e.2 then "first" else "hit" : Str), p)])
  | none => ((laidP room sh p false).1, wy.filter (fun e => decide (e.1 ≠ p)), (laidP room sh p false).2 ++ [((if (wy.filter fun e => decide (e.1 ≠ p)).length = wy.length then "miss" else "late" : Str), p)])
def startS (pl lt ms : Int) (sh : Shelf) (s : Way × Evs) (g : Int) : Way × Evs :=
  if (0 ≤ g ∧ g < pl) ∧ g ∉ sh.map (·.1) ++ s.1.map (·.1) ∧ ((s.1.length : Nat) : Int) < ms then (s.1 ++ [(g, lt)], s.2 ++ [(("start" : Str), g)]) else s
def startedP (pl lt ms : Int) (sh : Shelf) (wy : Way) (gs : List Int) : Way × Evs := gs.foldl (startS pl lt ms sh) (wy, [])
theorem laidP_len {room : Int} {sh : Shelf} {p : Int} {w : Bool} : (laidP room sh p w).1.length ≤ sh.length + 1 ∧ (laidP room sh p w).2.length ≤ 1 := by
  unfold laidP
  split
  · cases sh with
    | nil => exact ⟨Nat.le_refl _, Nat.zero_le _⟩
    | cons e r => exact ⟨by show (r ++ _).length ≤ _; rw [List.length_append]; exact Nat.le_succ _, Nat.le_refl _⟩
  · exact ⟨by show (sh ++ _).length ≤ _; rw [List.length_append]; exact Nat.le_refl _, Nat.zero_le _⟩
theorem laidP_room {room : Int} {sh : Shelf} {p : Int} {w : Bool} (h1 : 1 ≤ room) (h : ((sh.length : Nat) : Int) ≤ room) : (((laidP room sh p w).1.length : Nat) : Int) ≤ room := by
  unfold laidP
  split
  · cases sh with
    | nil => exact h1
    | cons e r =>
      show (((r ++ [(p, w)]).length : Nat) : Int) ≤ room
      rw [List.length_append]
      exact h
  · show (((sh ++ [(p, w)]).length : Nat) : Int) ≤ room
    rw [List.length_append]
    show (((sh.length + 1 : Nat) : Nat) : Int) ≤ room
    omega
theorem catA_ok {K : PySem.W.Frag} {H : Hp} {a b : Addr} {xs ys : List V} {Q : VK} (ha : SqT K H a xs) (hb : SqT K H b ys) (hz : xs.length + ys.length ≤ sizeLine) (q : ∀ p H', Same H H' → SqT K H' p (xs ++ ys) → Q (.ref p) H') : rCatA K (.ref a) (.ref b) H Q :=
  ⟨a, b, xs, ys, rfl, rfl, ha, hb, hz, fun e => q b H (Same.refl _) (by rw [e]; exact hb), fun _ e => q a H (Same.refl _) (by rw [e, List.append_nil]; exact ha), fun _ _ p np => q p _ (same_upd np) (sqt upd_same)⟩
section
variable {P : Program} {w : World} {K : PySem.W.Frag} {mg : Str → Option Value} {base : Heap} {f f1 C : Addr} {fd fd1 : FuncData}
def spLaid (K : PySem.W.Frag) (C : Addr) : Sp := fun vs H Q _ => ∃ (h a ev : Addr) (pl rm lt ms p : Int) (wt : Bool) (sh : Shelf) (es : Evs), vs = [.ref h, .ref a, .int p, .bl wt, .ref ev] ∧ IsH C H h pl rm lt ms ∧ IsSh K H a sh ∧ IsEv K H ev es ∧ 1 ≤ rm ∧ sh.length ≤ 1000 ∧ es.length ≤ 100000 ∧
  ∀ (a' : Addr) H', SameX ev H H' → IsSh K H' a' (laidP rm sh p wt).1 → IsEv K H' ev (es ++ (laidP rm sh p wt).2) → Q (.ref a') H'
theorem ok_laid (T : Nms mg) (HC : HouseC K C) (F : Fun K "laid" "laid" s_laid f fd) : FnOk P w K mg base CX0 1 f fd p_laid (spLaid K C) := by
  refine F.ok sc_laid (fun vs H Q E h => ?_) (fun cdv A outer s H vs Q E hr h => ?_)
  · obtain ⟨h, a, ev, pl, rm, lt, ms, p, wt, sh, es, rfl, _⟩ := h
    rfl
  obtain ⟨h, a, ev, pl, rm, lt, ms, p, wt, sh, es, rfl, hh, ⟨as, hs, pr⟩, ⟨bs, he, pe⟩, h1, hl, hes, q⟩ := h
  refine ⟨_, (pss_cons (ps_if (pt_cmpR op_eq (pe_callB call_len_seq (by rfl) T.n_len (by decide +kernel) (pa_cons (pv 1) pa_nil)) (pe_fld (pv 0) rfl) (nomark _))
    (pss_cons (ps_expr (pe_bm PySem.F.plainAttrs_list PySem.F.slot_list_append PySem.F.type_list_append mt_append (pv 4) (pa_cons (pe_tup (pa_cons (pe_ifExp (pt_val (pe_ix ix_tup (pe_ix ix_tup (pv 1) pe_int (fun _ _ => rfl)) pe_int (fun _ _ => rfl))) pe_str pe_str) (pa_cons (pe_ix ix_tup (pe_ix ix_tup (pv 1) pe_int (fun _ _ => rfl)) pe_int (fun _ _ => rfl)) pa_nil))) pa_nil)))
    (pss_one (ps_set (i := 1) sc_laid.nd rfl (Or.inl rfl) (pe_slice sl_tupA (pv 1) (po_some pe_int) po_none))))
    (pss_nil))
  (pss_one (ps_ret (pe_op op_catA (pv 1) (pe_tup (pa_cons (pe_tup (pa_cons (pv 2) (pa_cons (pv 3) pa_nil))) pa_nil)))))), ?_⟩
  have la : as.length = sh.length := Paired.length pr
  obtain ⟨dx, hh'⟩ := id hh
  and_intros
  refine ⟨h, C, dx, _, _, rfl, hh', HC.cl, HC.room, hfl_room _ _ _ _, ?_⟩
  have e0 : (((as.map V.ref).length : Nat) : Int) = ((sh.length : Nat) : Int) := by rw [List.length_map, la]
  and_intros
  by_cases c : ((sh.length : Nat) : Int) = rm
  · refine iteB (decide_eq_true (by rw [e0, c])) ?_
    cases sh with
    | nil => exact absurd c (by show ¬ (0 : Int) = rm; omega)
    | cons e r =>
    cases pr with
    | @cons a0 _ as0 _ p0 pr =>
    have hlaid : laidP rm (e :: r) p wt = (r ++ [(p, wt)], [((if e.2 then "waste" else "leave" : Str), e.1)]) := if_pos c
    rw [hlaid] at q
    obtain ⟨e1, e2⟩ := e
    and_intros
    refine ⟨.inl ⟨rfl, _, sql he⟩, ?_⟩
    and_intros
    have lb : bs.length = es.length := Paired.length pe
    have fin : ∀ (x : Str) (p1 : Addr), H p1 = none → ∀ H1, H1 = upd (upd H p1 (.tup [.str x, .int e1])) ev (.lst (bs.map V.ref ++ [.ref p1])) → SameX ev H H1 ∧ IsEv K H1 ev (es ++ [(x, e1)]) ∧ SqT K H1 a (V.ref a0 :: as0.map V.ref) ∧ PrS K H1 as0 r := fun x p1 n1 H1 e => by
      subst e
      have he1 := same_upd (o := .tup [.str x, .int e1]) n1 _ _ he
      have i1 : Imm H (upd H p1 (.tup [.str x, .int e1])) := Imm.same (same_upd n1)
      have i2 := i1.trans (Imm.upd (o := .lst (bs.map V.ref ++ [.ref p1])) ⟨_, he1⟩)
      exact ⟨(SameX.of (same_upd n1)).trans SameX.upd, IsEv.put he1 (pe.imm i1) (sqt upd_same), i2.t hs, PrS.imm pr i2⟩
    have sl : ∀ n : Nat, n ≤ 1000 → ¬ (HT.sIx (n + 1) 0 (some 1) = 0 ∧ HT.sIx (n + 1) (n + 1) none = n + 1) := fun n _ z => by
      have := z.1
      rw [show (1 : Int) = ((1 : Nat) : Int) from rfl, HT.sIx_nat] at this
      omega
    have la0 : as0.length = r.length := Nat.succ.inj la
    have lr : r.length + 1 ≤ 1000 := hl
    cases e2 with
    | true =>
      refine iteB rfl ?_
      and_intros
      intro p1 n1
      and_intros
      refine ⟨_, _, _, rfl, rfl, same_upd n1 _ _ he, by rw [List.length_map, lb]; exact szl (by omega), ?_⟩
      obtain ⟨s1, v1, t1, r1⟩ := fin "waste" p1 n1 _ rfl
      generalize upd (upd H p1 (.tup [.str "waste", .int e1])) ev (.lst (bs.map V.ref ++ [.ref p1])) = H1 at s1 v1 t1 r1 ⊢
      and_intros
      refine ⟨_, _, rfl, t1, fun z => absurd z (by show ¬ (HT.sIx ((as0.map V.ref).length + 1) 0 (some 1) = 0 ∧ HT.sIx ((as0.map V.ref).length + 1) ((as0.map V.ref).length + 1) none = (as0.map V.ref).length + 1); exact sl _ (by rw [List.length_map]; omega)), fun _ p2 n2 => ?_⟩
      rw [cut_from (by decide)]
      have t2 : SqT K (upd H1 p2 (.tup (as0.map V.ref))) p2 (as0.map V.ref) := sqt upd_same
      have s2 : Same H1 (upd H1 p2 (.tup (as0.map V.ref))) := same_upd n2
      rw [show List.drop (Int.toNat 1) (V.ref a0 :: as0.map V.ref) = as0.map V.ref from rfl]
      generalize upd H1 p2 (.tup (as0.map V.ref)) = H2 at t2 s2 ⊢
      and_intros
      intro p3 n3
      and_intros
      intro p4 n4
      refine catA_ok (same_t (same_upd n4) (same_t (same_upd n3) t2)) (sqt upd_same) (by rw [List.length_map]; exact sz (by show as0.length + 1 ≤ _; omega)) fun p5 H5 s5 h5 => ?_
      have s : Same H1 H5 := (s2.trans ((same_upd n3).trans (same_upd n4))).trans s5
      exact q p5 H5 (s1.trans (SameX.of s)) ⟨as0 ++ [p3], by rw [List.map_append]; exact h5, Paired.snoc (r1.imm (Imm.same s)) (sqt (s5 _ _ (same_upd n4 _ _ upd_same)))⟩ (v1.same s)
    | false =>
      refine iteB0 rfl ?_
      and_intros
      intro p1 n1
      and_intros
      refine ⟨_, _, _, rfl, rfl, same_upd n1 _ _ he, by rw [List.length_map, lb]; exact szl (by omega), ?_⟩
      obtain ⟨s1, v1, t1, r1⟩ := fin "leave" p1 n1 _ rfl
      generalize upd (upd H p1 (.tup [.str "leave", .int e1])) ev (.lst (bs.map V.ref ++ [.ref p1])) = H1 at s1 v1 t1 r1 ⊢
      and_intros
      refine ⟨_, _, rfl, t1, fun z => absurd z (by show ¬ (HT.sIx ((as0.map V.ref).length + 1) 0 (some 1) = 0 ∧ HT.sIx ((as0.map V.ref).length + 1) ((as0.map V.ref).length + 1) none = (as0.map V.ref).length + 1); exact sl _ (by rw [List.length_map]; omega)), fun _ p2 n2 => ?_⟩
      rw [cut_from (by decide)]
      have t2 : SqT K (upd H1 p2 (.tup (as0.map V.ref))) p2 (as0.map V.ref) := sqt upd_same
      have s2 : Same H1 (upd H1 p2 (.tup (as0.map V.ref))) := same_upd n2
      rw [show List.drop (Int.toNat 1) (V.ref a0 :: as0.map V.ref) = as0.map V.ref from rfl]
      generalize upd H1 p2 (.tup (as0.map V.ref)) = H2 at t2 s2 ⊢
      and_intros
      intro p3 n3
      and_intros
      intro p4 n4
      refine catA_ok (same_t (same_upd n4) (same_t (same_upd n3) t2)) (sqt upd_same) (by rw [List.length_map]; exact sz (by show as0.length + 1 ≤ _; omega)) fun p5 H5 s5 h5 => ?_
      have s : Same H1 H5 := (s2.trans ((same_upd n3).trans (same_upd n4))).trans s5
      exact q p5 H5 (s1.trans (SameX.of s)) ⟨as0 ++ [p3], by rw [List.map_append]; exact h5, Paired.snoc (r1.imm (Imm.same s)) (sqt (s5 _ _ (same_upd n4 _ _ upd_same)))⟩ (v1.same s)
  · refine iteB0 (decide_eq_false fun z => c (by rw [← e0]; exact V.int.inj z)) ?_
    have hlaid : laidP rm sh p wt = (sh ++ [(p, wt)], []) := if_neg c
    rw [hlaid] at q
    and_intros
    intro p1 n1
    and_intros
    intro p2 n2
    refine catA_ok (same_t (same_upd n2) (same_t (same_upd n1) hs)) (sqt upd_same) (by rw [List.length_map]; exact sz (by show as.length + 1 ≤ _; omega)) fun p3 H3 s3 h3 => ?_
    have s : Same H H3 := ((same_upd n1).trans (same_upd n2)).trans s3
    refine q p3 H3 (SameX.of s) ⟨as ++ [p1], by rw [List.map_append]; exact h3, Paired.snoc (pr.imm (Imm.same s)) (sqt (s3 _ _ (same_upd n2 _ _ upd_same)))⟩ ?_
    rw [List.append_nil]
    exact ⟨bs, s _ _ he, pe.imm (Imm.same s)⟩
def spCome (K : PySem.W.Frag) (C : Addr) : Sp := fun vs H Q _ => ∃ (h a b ev : Addr) (pl rm lt ms : Int) (sh : Shelf) (wy : Way), vs = [.ref h, .ref a, .ref b, .ref ev] ∧ IsH C H h pl rm lt ms ∧ IsSh K H a sh ∧ IsWT K H b wy ∧ IsEv K H ev [] ∧ 1 ≤ rm ∧ sh.length ≤ 100 ∧ wy.length ≤ 100 ∧
  ∀ (q a' b' : Addr) H', SameX ev H H' → H b' = none → b' ≠ ev → SqT K H' q [.ref a', .ref b'] → IsSh K H' a' (comeP rm sh wy).1 → IsWL K H' b' (comeP rm sh wy).2.1 → IsEv K H' ev (comeP rm sh wy).2.2 → Q (.ref q) H'
theorem comeP_len (room : Int) (sh : Shelf) : ∀ (wy : Way) (i : Nat), ((wy.take i).foldl (comeS room) (sh, [], [])).1.length ≤ sh.length + i ∧ ((wy.take i).foldl (comeS room) (sh, [], [])).2.1.length ≤ i ∧ ((wy.take i).foldl (comeS room) (sh, [], [])).2.2.length ≤ 2 * i
  | wy, 0 => by rw [List.take_zero]; exact ⟨Nat.le_refl _, Nat.le_refl _, Nat.le_refl _⟩
  | wy, i + 1 => by
    have ih := comeP_len room sh wy i
    rw [List.take_add_one, List.foldl_append]
    generalize (wy.take i).foldl (comeS room) (sh, [], []) = s at ih
    cases e : wy[i]? with
    | none => exact ⟨Nat.le_succ_of_le ih.1, Nat.le_succ_of_le ih.2.1, Nat.le_trans ih.2.2 (by omega)⟩
    | some x =>
      show (comeS room s x).1.length ≤ _ ∧ (comeS room s x).2.1.length ≤ _ ∧ (comeS room s x).2.2.length ≤ _
      have z := laidP_len (room := room) (sh := s.1) (p := x.1) (w := true)
      unfold comeS
      split
      · refine ⟨by show (laidP room s.1 x.1 true).1.length ≤ _; omega, Nat.le_succ_of_le ih.2.1, ?_⟩
        show (s.2.2 ++ (laidP room s.1 x.1 true).2 ++ [_]).length ≤ _
        rw [List.length_append, List.length_append]
        show _ + _ + 1 ≤ _
        omega
      · refine ⟨Nat.le_succ_of_le ih.1, ?_, Nat.le_trans ih.2.2 (by omega)⟩
        show (s.2.1 ++ [_]).length ≤ _
        rw [List.length_append]
        exact Nat.succ_le_succ ih.2.1
theorem ok_come (T : Nms mg) (HC : HouseC K C) (D_laid : Df K mg "laid" s_laid p_laid f1 fd1) (F : Fun K "come" "come" s_come f fd) : FnOk P w K mg base CX0 2 f fd p_come (spCome K C) := by
  have G_laid : FnOk P w K mg base CX0 1 f1 fd1 p_laid (spLaid K C) := ok_laid T HC D_laid.F
  refine F.ok sc_come (fun vs H Q E h => ?_) (fun cdv A outer s H vs Q E hr h => ?_)
  · obtain ⟨h, a, b, ev, pl, rm, lt, ms, sh, wy, rfl, _⟩ := h
    rfl
  obtain ⟨h, a, b, ev, pl, rm, lt, ms, sh, wy, rfl, hh, hs, ⟨bs, hb, pb⟩, he, h1, hls, hlw, q⟩ := h
  refine ⟨_, (pss_cons (ps_set (i := 4) sc_come.nd rfl (Or.inl rfl) (pe_lst pa_nil))
  (pss_cons (ps_for PassesOwn.never rfl (pi_tup (pv 2)) (pg_tup rfl (pgs_cons (pg_name (i := 5) sc_come.nd rfl (Or.inl rfl)) (pgs_cons (pg_name (i := 6) sc_come.nd rfl (Or.inl rfl)) pgs_nil)))
    (pss_one (ps_if (pt_cmpR op_eq (pv 6) pe_int (nomark _))
      (pss_cons (ps_set (i := 1) sc_come.nd rfl (Or.inl rfl) (pe_call G_laid (hr.mono (by first | decide | omega)) (by rfl) D_laid.m D_laid.F.kp D_laid.b .nil pass0 (pa_cons (pv 0) (pa_cons (pv 1) (pa_cons (pv 5) (pa_cons pe_bl (pa_cons (pv 3) pa_nil)))))))
      (pss_one (ps_expr (pe_bm PySem.F.plainAttrs_list PySem.F.slot_list_append PySem.F.type_list_append mt_append (pv 3) (pa_cons (pe_tup (pa_cons pe_str (pa_cons (pv 5) pa_nil))) pa_nil)))))
      (pss_one (ps_expr (pe_bm PySem.F.plainAttrs_list PySem.F.slot_list_append PySem.F.type_list_append mt_append (pv 4) (pa_cons (pe_tup (pa_cons (pv 5) (pa_cons (pe_op op_sub (pv 6) pe_int) pa_nil))) pa_nil)))))))
  (pss_one (ps_ret (pe_tup (pa_cons (pv 1) (pa_cons (pv 4) pa_nil))))))), ?_⟩
  and_intros
  intro D nD
  have nDe : D ≠ ev := (ne_of_none he.at_.choose_spec nD).symm
  and_intros
  refine ⟨⟨_, same_t (same_upd nD) hb⟩, ?_⟩
  refine for_tup (xs := bs.map V.ref) (fun i σ H' => ∃ y5 y6 a' , σ = [some (.ref h), some (.ref a'), some (.ref b), some (.ref ev), some (.ref D), y5, y6] ∧ SameX ev H H' ∧ IsSh K H' a' ((wy.take i).foldl (comeS rm) (sh, [], [])).1 ∧ IsWL K H' D ((wy.take i).foldl (comeS rm) (sh, [], [])).2.1 ∧ IsEv K H' ev ((wy.take i).foldl (comeS rm) (sh, [], [])).2.2)
    ⟨none, none, a, rfl, SameX.of (same_upd nD), hs.imm (Imm.same (same_upd nD)), ⟨[], upd_same, .nil⟩, he.same (same_upd nD)⟩ (fun i σ H' _ h => ?_) (fun i x σ H' hi h => ?_) (fun σ H' h => ?_)
  · obtain ⟨y5, y6, a', rfl, sX, _⟩ := h
    exact sX.t he.at_ hb
  · obtain ⟨y5, y6, a', rfl, sX, i1, i2, i3⟩ := h
    have im := Imm.sameX sX he.at_
    obtain ⟨p, e, hp, hpr, tk, _⟩ := pr_at pb hi
    subst hp
    have he2 := im.t hpr
    refine ⟨p, _, rfl, he2, rfl, _, _, rfl, _, _, rfl, rfl, ?_⟩
    have cl := comeP_len rm sh wy i
    have hh' := hh.x sX he.at_
    have efold : (wy.take (i + 1)).foldl (comeS rm) (sh, [], []) = comeS rm ((wy.take i).foldl (comeS rm) (sh, [], [])) e := by rw [tk, List.foldl_append]; rfl
    have hi' : i < wy.length := by
      have := (List.getElem?_eq_some_iff.mp hi).1
      rw [List.length_map, Paired.length pb] at this
      exact this
    rw [efold]
    generalize (wy.take i).foldl (comeS rm) (sh, [], []) = st at i1 i2 i3 cl efold
    obtain ⟨e1, e2⟩ := e
    and_intros
    by_cases c : e2 = 0
    · refine iteB (decide_eq_true (congrArg V.int c)) ?_
      have ec : comeS rm st (e1, e2) = ((laidP rm st.1 e1 true).1, st.2.1, st.2.2 ++ (laidP rm st.1 e1 true).2 ++ [(("come" : Str), e1)]) := if_pos c
      rw [ec]
      and_intros
      refine ⟨h, a', ev, pl, rm, lt, ms, e1, true, st.1, st.2.2, rfl, hh', i1, i3, h1, by omega, by omega, fun a2 H2 s2 j1 j3 => ?_⟩
      have j2 := i2.x nDe s2 i3.at_
      have ll := laidP_len (room := rm) (sh := st.1) (p := e1) (w := true)
      and_intros
      obtain ⟨es, q1, q2⟩ := j3
      refine ⟨.inl ⟨rfl, _, sql q1⟩, ?_⟩
      and_intros
      intro p1 n1
      have q1' := same_upd (o := .tup [.str "come", .int e1]) n1 _ _ q1
      have im1 : Imm H2 (upd H2 p1 (.tup [.str "come", .int e1])) := Imm.same (same_upd n1)
      have les : es.length = (st.2.2 ++ (laidP rm st.1 e1 true).2).length := Paired.length q2
      rw [List.length_append] at les
      and_intros
      refine ⟨_, _, _, rfl, rfl, q1', by rw [List.length_map]; exact szl (by omega), ?_⟩
      refine ⟨_, _, a2, rfl, ((sX.trans s2).trans (SameX.of (same_upd n1))).trans SameX.upd, (j1.imm im1).imm (Imm.upd ⟨_, q1'⟩), (j2.same (same_upd n1)).x nDe SameX.upd ⟨_, q1'⟩, IsEv.put q1' (q2.imm im1) (sqt upd_same)⟩
    · refine iteB0 (decide_eq_false fun z => c (V.int.inj z)) ?_
      have ec : comeS rm st (e1, e2) = (st.1, st.2.1 ++ [(e1, e2 - 1)], st.2.2) := if_neg c
      rw [ec]
      and_intros
      obtain ⟨es, q1, q2⟩ := i2
      refine ⟨.inl ⟨rfl, _, sql q1⟩, ?_⟩
      and_intros
      intro p1 n1
      have q1' := same_upd (o := .tup [.int e1, .int (e2 - 1)]) n1 _ _ q1
      have im1 : Imm H' (upd H' p1 (.tup [.int e1, .int (e2 - 1)])) := Imm.same (same_upd n1)
      have les : es.length = st.2.1.length := Paired.length q2
      and_intros
      refine ⟨_, _, _, rfl, rfl, q1', by rw [List.length_map]; exact szl (by omega), ?_⟩
      obtain ⟨fs, v1, v2⟩ := i3.same (same_upd (o := .tup [.int e1, .int (e2 - 1)]) n1)
      refine ⟨_, _, a', rfl, samex_mut (sX.trans (SameX.of (same_upd n1))) nD, (i1.imm im1).imm (Imm.upd ⟨_, q1'⟩), IsWL.put q1' (q2.imm im1) (sqt upd_same), ⟨fs, by rw [upd_ne nDe.symm]; exact v1, v2.imm (Imm.upd ⟨_, q1'⟩)⟩⟩
  · obtain ⟨y5, y6, a', rfl, sX, i1, i2, i3⟩ := h
    have ew : wy.take (bs.map V.ref).length = wy := by rw [List.length_map, Paired.length pb]; exact List.take_length
    rw [ew] at i1 i2 i3
    and_intros
    intro p1 n1
    exact q p1 a' D _ (sX.trans (SameX.of (same_upd n1))) nD nDe (sqt upd_same) (i1.imm (Imm.same (same_upd n1))) (i2.same (same_upd n1)) (i3.same (same_upd n1))
end
end St

namespace St
open PySem PySem.Spec PyProof.Rows L2
abbrev s_asked : Stmt := topS 30
abbrev N_asked : List Str := ["house", "shelf", "way", "place", "events", "one", "rest", "word", "other"]
abbrev p_asked : List Str := ["house", "shelf", "way", "place", "events"]
theorem sc_asked : FnScope N_asked p_asked (defScope s_asked) := ⟨rfl, rfl, rfl, by decide +kernel, rfl, by decide +kernel, by decide +kernel⟩
section
variable {P : Program} {w : World} {K : PySem.W.Frag} {mg : Str → Option Value} {base : Heap} {f f1 C : Addr} {fd fd1 : FuncData}
def spAsked (K : PySem.W.Frag) (C : Addr) : Sp := fun vs H Q _ => ∃ (h a b ev : Addr) (pl rm lt ms p : Int) (sh : Shelf) (wy : Way) (es : Evs), vs = [.ref h, .ref a, .ref b, .int p, .ref ev] ∧ IsH C H h pl rm lt ms ∧ IsSh K H a sh ∧ IsWL K H b wy ∧ b ≠ ev ∧ IsEv K H ev es ∧ 1 ≤ rm ∧ sh.length ≤ 1000 ∧ wy.length ≤ 1000 ∧ es.length ≤ 10000 ∧
  ∀ (q a' b' : Addr) H', SameX ev H H' → b' ≠ ev → (b' = b ∨ H b' = none) → SqT K H' q [.ref a', .ref b'] → IsSh K H' a' (askedP rm sh wy p).1 → IsWL K H' b' (askedP rm sh wy p).2.1 → IsEv K H' ev (es ++ (askedP rm sh wy p).2.2) → Q (.ref q) H'
theorem find_at {α : Type} {P : α → Bool} : ∀ {l : List α} {i : Nat} {e : α}, l[i]? = some e → (∀ x ∈ l.take i, P x = false) → P e = true → l.find? P = some e
  | [], _, _, h, _, _ => nomatch h
  | a :: r, 0, e, h, _, he => by
    cases Option.some.inj h
    rw [List.find?_cons, he]
  | a :: r, i + 1, e, h, hn, he => by
    have := hn a (List.mem_cons_self ..)
    rw [List.find?_cons, this]
    exact find_at (i := i) h (fun x hx => hn x (List.mem_cons_of_mem _ hx)) he
theorem lay_ib (a : Int) (b : Bool) : SeqAt.shaped (.tuple [.int a, .bool b]) = true := rfl
theorem dp_ib {K : PySem.W.Frag} {H : Hp} {p : Addr} {a : Int} {b : Bool} (h : SqT K H p [.int a, .bl b]) : Dp K H (.ref p) (.tuple [.int a, .bool b]) := .tup h (.cons (.int a) (.cons (.bl b) .nil))
theorem eqv_ib (a c : Int) (b d : Bool) : PyData.eqv (.tuple [.int a, .bool b]) (.tuple [.int c, .bool d]) = decide ((a, b) = (c, d)) := by
  simp only [PyData.eqv, PyData.eqvAll, Bool.and_true]
  by_cases x : a = c
  · subst x
    cases b <;> cases d <;> simp
  · simp [x]
theorem ok_asked (T : Nms mg) (HC : HouseC K C) (D_laid : Df K mg "laid" s_laid p_laid f1 fd1) (F : Fun K "asked" "asked" s_asked f fd) : FnOk P w K mg base CX0 2 f fd p_asked (spAsked K C) := by
  have G_laid : FnOk P w K mg base CX0 1 f1 fd1 p_laid (spLaid K C) := ok_laid T HC D_laid.F
  refine F.ok sc_asked (fun vs H Q E h => ?_) (fun cdv A outer s H vs Q E hr h => ?_)
  · obtain ⟨h, a, b, ev, pl, rm, lt, ms, p, sh, wy, es, rfl, _⟩ := h
    rfl
  obtain ⟨h, a, b, ev, pl, rm, lt, ms, p, sh, wy, es, rfl, hh, ⟨as, hs, ps⟩, hw, nbe, he, h1, hls, hlw, hle, q⟩ := h
  refine ⟨_, (pss_cons (ps_for PassesOwn.never rfl (pi_tup (pv 1)) (pg_name (i := 5) sc_asked.nd rfl (Or.inr rfl))
    (pss_one (ps_if (pt_cmpR op_eq (pe_ix ix_tup (pv 5) pe_int (fun _ _ => rfl)) (pv 3) (nomark _))
      (pss_cons (ps_expr (pe_bm PySem.F.plainAttrs_list PySem.F.slot_list_append PySem.F.type_list_append mt_append (pv 4) (pa_cons (pe_tup (pa_cons (pe_ifExp (pt_val (pe_ix ix_tup (pv 5) pe_int (fun _ _ => rfl))) pe_str pe_str) (pa_cons (pv 3) pa_nil))) pa_nil)))
      (pss_one (ps_ret (pe_tup (pa_cons (pe_op op_catA (pe_callTy call_tuple_of (by rfl) T.n_tuple (by decide +kernel) (pa_cons (pe_lc (own := [("other", 8)]) (g := gName 8) rfl sc_asked.nd (pi_tup (pv 1)) (blkOk_by (own := [("other", 8)]) (N := N_asked) (sc := defScope s_asked) (by decide +kernel)) (fun _ _ _ _ _ => pg_name (i := 8) sc_asked.nd rfl (Or.inl rfl)) (fun _ _ _ _ _ => pts_one (pt_cmpR (neD_K (K := K) hr.units) (pv 8) (pv 5) (nomark _))) (fun _ _ _ _ _ => (pv 8))) pa_nil)) (pe_tup (pa_cons (pe_tup (pa_cons (pv 3) (pa_cons pe_bl pa_nil))) pa_nil))) (pa_cons (pv 2) pa_nil))))))
      (pss_nil))))
  (pss_cons (ps_setLc (i := 6) (own := [("one", 5)]) (g := gName 5) rfl sc_asked.nd rfl rfl (sw_true rfl rfl rfl (by decide +kernel)) (pi_list (pv 2)) (blkOk_by (own := [("one", 5)]) (N := N_asked) (sc := defScope s_asked) (by decide +kernel)) (fun _ _ _ _ _ => pg_name (i := 5) sc_asked.nd rfl (Or.inl rfl)) (fun _ _ _ _ _ => pts_one (pt_cmpR op_ne (pe_ix (ix_tupK (K := K)) (pv 5) pe_int (fun _ _ => rfl)) (pv 3) (nomark _))) (fun _ _ _ _ _ => (pv 5)))
  (pss_cons (ps_set (i := 7) sc_asked.nd rfl (Or.inl rfl) (pe_ifExp (pt_cmpR op_eq (pe_callB call_len_seq (by rfl) T.n_len (by decide +kernel) (pa_cons (pv 6) pa_nil)) (pe_callB call_len_seq (by rfl) T.n_len (by decide +kernel) (pa_cons (pv 2) pa_nil)) (nomark _)) pe_str pe_str))
  (pss_cons (ps_set (i := 1) sc_asked.nd rfl (Or.inl rfl) (pe_call G_laid (hr.mono (by first | decide | omega)) (by rfl) D_laid.m D_laid.F.kp D_laid.b .nil pass0 (pa_cons (pv 0) (pa_cons (pv 1) (pa_cons (pv 3) (pa_cons pe_bl (pa_cons (pv 4) pa_nil)))))))
  (pss_cons (ps_expr (pe_bm PySem.F.plainAttrs_list PySem.F.slot_list_append PySem.F.type_list_append mt_append (pv 4) (pa_cons (pe_tup (pa_cons (pv 7) (pa_cons (pv 3) pa_nil))) pa_nil)))
  (pss_one (ps_ret (pe_tup (pa_cons (pv 1) (pa_cons (pv 6) pa_nil)))))))))), ?_⟩
  and_intros
  refine ⟨⟨_, hs⟩, ?_⟩
  refine for_tup (xs := as.map V.ref) (fun i σ H' => ∃ y5, σ = [some (.ref h), some (.ref a), some (.ref b), some (.int p), some (.ref ev), y5, none, none, none] ∧ H = H' ∧ ∀ x ∈ sh.take i, decide (x.1 = p) = false)
    ⟨none, rfl, rfl, fun _ h => (nomatch h)⟩ (fun i σ H' _ h => ?_) (fun i x σ H' hi h => ?_) (fun σ H' h => ?_)
  · obtain ⟨y5, rfl, rfl, _⟩ := h
    exact hs
  · obtain ⟨y5, rfl, rfl, hn⟩ := h
    obtain ⟨u, e, rfl, hu, tk, eg⟩ := pr_at ps hi
    obtain ⟨e1, e2⟩ := e
    have hu : SqT K H u [.int e1, .bl e2] := hu
    and_intros
    by_cases c : e1 = p
    · refine iteB (decide_eq_true (congrArg V.int c)) ?_
      subst c
      obtain ⟨fs, q1, q2⟩ := he
      have les : fs.length = es.length := Paired.length q2
      have ef : sh.find? (fun e => decide (e.1 = e1)) = some (e1, e2) := find_at eg hn (decide_eq_true rfl)
      and_intros
      refine ⟨.inl ⟨rfl, _, sql q1⟩, ?_⟩
      and_intros
      cases e2 with
      | true =>
        refine iteB rfl ?_
        have ea : askedP rm sh wy e1 = (sh.filter (fun o => decide (o ≠ (e1, true))) ++ [(e1, false)], wy, [(("first" : Str), e1)]) := by unfold askedP; rw [ef]; rfl
        rw [ea] at q
        and_intros
        intro p1 n1
        and_intros
        have q1' := same_upd (o := .tup [.str "first", .int e1]) n1 _ _ q1
        have im1 : Imm H (upd H p1 (.tup [.str "first", .int e1])) := Imm.same (same_upd n1)
        refine ⟨_, _, _, rfl, rfl, q1', by rw [List.length_map, les]; exact szl (by omega), ?_⟩
        have im2 := im1.trans (Imm.upd (o := .lst (fs.map V.ref ++ [.ref p1])) ⟨_, q1'⟩)
        have hs2 := im2.t hs
        have ps2 := ps.imm im2
        have sX : SameX ev H (upd (upd H p1 (.tup [.str "first", .int e1])) ev (.lst (fs.map V.ref ++ [.ref p1]))) := (SameX.of (same_upd n1)).trans SameX.upd
        have hw2 := hw.x nbe sX ⟨_, q1⟩
        have he2 : IsEv K (upd (upd H p1 (.tup [.str "first", .int e1])) ev (.lst (fs.map V.ref ++ [.ref p1]))) ev (es ++ [(("first" : Str), e1)]) := IsEv.put q1' (q2.imm im1) (sqt upd_same)
        generalize upd (upd H p1 (.tup [.str "first", .int e1])) ev (.lst (fs.map V.ref ++ [.ref p1])) = H2 at hs2 ps2 sX hw2 he2 im2 ⊢
        and_intros
        refine ⟨⟨_, hs2⟩, fun D nD => ?_⟩
        refine lc_tup (xs := as.map V.ref) (fun i H' => Same H2 H' ∧ ∃ cs : List Addr, H' D = some (.lst (cs.map V.ref)) ∧ PrS K H' cs ((sh.take i).filter (fun o => decide (o ≠ (e1, true))))) ⟨same_upd nD, [], upd_same, .nil⟩ (fun i H' _ h => same_t h.1 hs2) (fun i y H' hi h => ?_) (fun H' h => ?_)
        · obtain ⟨s3, cs, eD, pc⟩ := h
          obtain ⟨u2, o, rfl, hu2, tk2, eg2⟩ := pr_at (ps2.imm (Imm.same s3)) hi
          obtain ⟨o1, o2⟩ := o
          have hu' : SqT K H' u [.int e1, .bl true] := (im2.trans (Imm.same s3)).t hu
          and_intros
          refine ⟨.tuple [.int o1, .bool o2], .tuple [.int e1, .bool true], dp_ib hu2, dp_ib hu', lay_ib _ _, lay_ib _ _, ?_⟩
          rw [eqv_ib, tk2, filter_snoc]
          by_cases co : (o1, o2) = (e1, true)
          · rw [decide_eq_true co]
            refine ⟨_, rfl, iteB0 (b := !true) rfl ?_⟩
            rw [if_neg (by simp [co]), List.append_nil]
            exact ⟨s3, cs, eD, pc⟩
          · rw [decide_eq_false co]
            refine ⟨_, rfl, iteB (b := !false) rfl ?_⟩
            have lc : cs.length ≤ sh.length := by
              rw [Paired.length pc]
              refine Nat.le_trans (List.length_filter_le _ _) ?_
              rw [List.length_take]
              exact Nat.min_le_right _ _
            refine ⟨_, rfl, _, eD, by rw [List.length_map]; exact szl (by omega), same_mut s3 nD, cs ++ [u2], by rw [upd_same, List.map_append]; rfl, ?_⟩
            rw [if_pos (by simp [co])]
            exact Paired.snoc (pc.imm (Imm.upd ⟨_, eD⟩)) ((Imm.upd ⟨_, eD⟩).t hu2)
        · obtain ⟨s3, cs, eD, pc⟩ := h
          rw [show sh.take (as.map V.ref).length = sh by rw [List.length_map, Paired.length ps]; exact List.take_length] at pc
          have lc : cs.length ≤ sh.length := by
            rw [Paired.length pc]
            exact List.length_filter_le _ _
          refine ⟨_, _, rfl, .inl ⟨sql eD, fun t nt => ?_⟩⟩
          and_intros
          intro p4 n4
          and_intros
          intro p5 n5
          refine catA_ok (same_t (same_upd n5) (same_t (same_upd n4) (sqt upd_same))) (sqt upd_same) (by rw [List.length_map]; exact sz (by show cs.length + 1 ≤ _; omega)) fun p6 H6 s6 h6 => ?_
          and_intros
          intro p7 n7
          have sE : Same H2 H6 := (s3.trans ((same_upd nt).trans ((same_upd n4).trans (same_upd n5)))).trans s6
          have sE' : Same H' H6 := ((same_upd nt).trans ((same_upd n4).trans (same_upd n5))).trans s6
          have h4 : SqT K H6 p4 [.int e1, .bl false] := sqt (s6 _ _ (same_upd n5 _ _ upd_same))
          exact q p7 p6 b _ (sX.trans (SameX.of (sE.trans (same_upd n7)))) nbe (.inl rfl) (sqt upd_same) (IsSh.imm ⟨cs ++ [p4], by rw [List.map_append]; exact h6, Paired.snoc (pc.imm (Imm.same sE')) h4⟩ (Imm.same (same_upd n7))) (hw2.same (sE.trans (same_upd n7))) (he2.same (sE.trans (same_upd n7)))
      | false =>
        refine iteB0 rfl ?_
        have ea : askedP rm sh wy e1 = (sh.filter (fun o => decide (o ≠ (e1, false))) ++ [(e1, false)], wy, [(("hit" : Str), e1)]) := by unfold askedP; rw [ef]; rfl
        rw [ea] at q
        and_intros
        intro p1 n1
        and_intros
        have q1' := same_upd (o := .tup [.str "hit", .int e1]) n1 _ _ q1
        have im1 : Imm H (upd H p1 (.tup [.str "hit", .int e1])) := Imm.same (same_upd n1)
        refine ⟨_, _, _, rfl, rfl, q1', by rw [List.length_map, les]; exact szl (by omega), ?_⟩
        have im2 := im1.trans (Imm.upd (o := .lst (fs.map V.ref ++ [.ref p1])) ⟨_, q1'⟩)
        have hs2 := im2.t hs
        have ps2 := ps.imm im2
        have sX : SameX ev H (upd (upd H p1 (.tup [.str "hit", .int e1])) ev (.lst (fs.map V.ref ++ [.ref p1]))) := (SameX.of (same_upd n1)).trans SameX.upd
        have hw2 := hw.x nbe sX ⟨_, q1⟩
        have he2 : IsEv K (upd (upd H p1 (.tup [.str "hit", .int e1])) ev (.lst (fs.map V.ref ++ [.ref p1]))) ev (es ++ [(("hit" : Str), e1)]) := IsEv.put q1' (q2.imm im1) (sqt upd_same)
        generalize upd (upd H p1 (.tup [.str "hit", .int e1])) ev (.lst (fs.map V.ref ++ [.ref p1])) = H2 at hs2 ps2 sX hw2 he2 im2 ⊢
        and_intros
        refine ⟨⟨_, hs2⟩, fun D nD => ?_⟩
        refine lc_tup (xs := as.map V.ref) (fun i H' => Same H2 H' ∧ ∃ cs : List Addr, H' D = some (.lst (cs.map V.ref)) ∧ PrS K H' cs ((sh.take i).filter (fun o => decide (o ≠ (e1, false))))) ⟨same_upd nD, [], upd_same, .nil⟩ (fun i H' _ h => same_t h.1 hs2) (fun i y H' hi h => ?_) (fun H' h => ?_)
        · obtain ⟨s3, cs, eD, pc⟩ := h
          obtain ⟨u2, o, rfl, hu2, tk2, eg2⟩ := pr_at (ps2.imm (Imm.same s3)) hi
          obtain ⟨o1, o2⟩ := o
          have hu' : SqT K H' u [.int e1, .bl false] := (im2.trans (Imm.same s3)).t hu
          and_intros
          refine ⟨.tuple [.int o1, .bool o2], .tuple [.int e1, .bool false], dp_ib hu2, dp_ib hu', lay_ib _ _, lay_ib _ _, ?_⟩
          rw [eqv_ib, tk2, filter_snoc]
          by_cases co : (o1, o2) = (e1, false)
          · rw [decide_eq_true co]
            refine ⟨_, rfl, iteB0 (b := !true) rfl ?_⟩
            rw [if_neg (by simp [co]), List.append_nil]
            exact ⟨s3, cs, eD, pc⟩
          · rw [decide_eq_false co]
            refine ⟨_, rfl, iteB (b := !false) rfl ?_⟩
            have lc : cs.length ≤ sh.length := by
              rw [Paired.length pc]
              refine Nat.le_trans (List.length_filter_le _ _) ?_
              rw [List.length_take]
              exact Nat.min_le_right _ _
            refine ⟨_, rfl, _, eD, by rw [List.length_map]; exact szl (by omega), same_mut s3 nD, cs ++ [u2], by rw [upd_same, List.map_append]; rfl, ?_⟩
            rw [if_pos (by simp [co])]
            exact Paired.snoc (pc.imm (Imm.upd ⟨_, eD⟩)) ((Imm.upd ⟨_, eD⟩).t hu2)
        · obtain ⟨s3, cs, eD, pc⟩ := h
          rw [show sh.take (as.map V.ref).length = sh by rw [List.length_map, Paired.length ps]; exact List.take_length] at pc
          have lc : cs.length ≤ sh.length := by
            rw [Paired.length pc]
            exact List.length_filter_le _ _
          refine ⟨_, _, rfl, .inl ⟨sql eD, fun t nt => ?_⟩⟩
          and_intros
          intro p4 n4
          and_intros
          intro p5 n5
          refine catA_ok (same_t (same_upd n5) (same_t (same_upd n4) (sqt upd_same))) (sqt upd_same) (by rw [List.length_map]; exact sz (by show cs.length + 1 ≤ _; omega)) fun p6 H6 s6 h6 => ?_
          and_intros
          intro p7 n7
          have sE : Same H2 H6 := (s3.trans ((same_upd nt).trans ((same_upd n4).trans (same_upd n5)))).trans s6
          have sE' : Same H' H6 := ((same_upd nt).trans ((same_upd n4).trans (same_upd n5))).trans s6
          have h4 : SqT K H6 p4 [.int e1, .bl false] := sqt (s6 _ _ (same_upd n5 _ _ upd_same))
          exact q p7 p6 b _ (sX.trans (SameX.of (sE.trans (same_upd n7)))) nbe (.inl rfl) (sqt upd_same) (IsSh.imm ⟨cs ++ [p4], by rw [List.map_append]; exact h6, Paired.snoc (pc.imm (Imm.same sE')) h4⟩ (Imm.same (same_upd n7))) (hw2.same (sE.trans (same_upd n7))) (he2.same (sE.trans (same_upd n7)))
    · refine iteB0 (decide_eq_false fun z => c (V.int.inj z)) ?_
      refine ⟨_, rfl, rfl, fun x hx => ?_⟩
      rw [tk] at hx
      rcases List.mem_append.mp hx with hx | hx
      · exact hn x hx
      · rw [List.mem_singleton.mp hx]
        exact decide_eq_false c
  · obtain ⟨y5, rfl, rfl, hn⟩ := h
    rw [show sh.take (as.map V.ref).length = sh by rw [List.length_map, Paired.length ps]; exact List.take_length] at hn
    have ef : sh.find? (fun e => decide (e.1 = p)) = none := List.find?_eq_none.mpr fun x hx => by rw [hn x hx]; exact Bool.false_ne_true
    have ea : askedP rm sh wy p = ((laidP rm sh p false).1, wy.filter (fun e => decide (e.1 ≠ p)), (laidP rm sh p false).2 ++ [((if (wy.filter fun e => decide (e.1 ≠ p)).length = wy.length then "miss" else "late" : Str), p)]) := by unfold askedP; rw [ef]
    rw [ea] at q
    obtain ⟨ws, w1, w2⟩ := hw
    have lws : ws.length = wy.length := Paired.length w2
    and_intros
    refine ⟨⟨_, sql w1⟩, fun D nD => ?_⟩
    have nDe : D ≠ ev := (ne_of_none he.at_.choose_spec nD).symm
    refine lc_list (xs := ws.map V.ref) (fun i H' => Same H H' ∧ ∃ cs : List Addr, H' D = some (.lst (cs.map V.ref)) ∧ PrW K H' cs ((wy.take i).filter (fun e => decide (e.1 ≠ p)))) ⟨same_upd nD, [], upd_same, .nil⟩ (fun i H' _ h => sql (h.1 _ _ w1)) (fun i y H' hi h => ?_) (fun H' h => ?_)
    · obtain ⟨s3, cs, eD, pc⟩ := h
      obtain ⟨u2, o, rfl, hu2, tk2, eg2⟩ := pr_at (w2.imm (Imm.same s3)) hi
      obtain ⟨o1, o2⟩ := o
      have hu2 : SqT K H' u2 [.int o1, .int o2] := hu2
      and_intros
      rw [tk2, filter_snoc]
      by_cases co : o1 = p
      · refine iteB0 (by rw [decide_eq_true (congrArg V.int co)]; rfl) ?_
        rw [if_neg (by simp [co]), List.append_nil]
        exact ⟨s3, cs, eD, pc⟩
      · refine iteB (by rw [decide_eq_false fun z => co (V.int.inj z)]; rfl) ?_
        have lc : cs.length ≤ wy.length := by
          rw [Paired.length pc]
          refine Nat.le_trans (List.length_filter_le _ _) ?_
          rw [List.length_take]
          exact Nat.min_le_right _ _
        refine ⟨_, rfl, _, eD, by rw [List.length_map]; exact szl (by omega), same_mut s3 nD, cs ++ [u2], by rw [upd_same, List.map_append]; rfl, ?_⟩
        rw [if_pos (by simp [co])]
        exact Paired.snoc (pc.imm (Imm.upd ⟨_, eD⟩)) ((Imm.upd ⟨_, eD⟩).t hu2)
    · obtain ⟨s3, cs, eD, pc⟩ := h
      rw [show wy.take (ws.map V.ref).length = wy by rw [List.length_map, lws]; exact List.take_length] at pc
      have lcs : cs.length = (wy.filter (fun e => decide (e.1 ≠ p))).length := Paired.length pc
      have w1' := s3 _ _ w1
      have hR : IsWL K H' D (wy.filter (fun e => decide (e.1 ≠ p))) := ⟨cs, eD, pc⟩
      have hs' := same_t s3 hs
      have ps' := ps.imm (Imm.same s3)
      have he' := he.same s3
      have hh' := hh.same s3
      generalize wy.filter (fun e => decide (e.1 ≠ p)) = rest at lcs hR q
      and_intros
      have lcm : (V.int ((cs.map V.ref).length : Nat) = V.int ((ws.map V.ref).length : Nat)) ↔ rest.length = wy.length := by
        rw [List.length_map, List.length_map, lcs, lws]
        exact ⟨fun z => Int.ofNat.inj (V.int.inj z), fun z => by rw [z]⟩
      by_cases cm : rest.length = wy.length
      · refine iteB (decide_eq_true (lcm.mpr cm)) ?_
        rw [if_pos cm] at q
        and_intros
        refine ⟨h, a, ev, pl, rm, lt, ms, p, false, sh, es, rfl, hh', ⟨as, hs', ps'⟩, he', h1, hls, by omega, fun a2 H2 s2 j1 j3 => ?_⟩
        have j2 := hR.x nDe s2 he'.at_
        have ll := laidP_len (room := rm) (sh := sh) (p := p) (w := false)
        and_intros
        obtain ⟨gs, q1, q2⟩ := j3
        refine ⟨.inl ⟨rfl, _, sql q1⟩, ?_⟩
        and_intros
        intro p1 n1
        have q1' := same_upd (o := .tup [.str "miss", .int p]) n1 _ _ q1
        have im1 : Imm H2 (upd H2 p1 (.tup [.str "miss", .int p])) := Imm.same (same_upd n1)
        have les : gs.length = (es ++ (laidP rm sh p false).2).length := Paired.length q2
        rw [List.length_append] at les
        and_intros
        refine ⟨_, _, _, rfl, rfl, q1', by rw [List.length_map]; exact szl (by omega), ?_⟩
        have sX : SameX ev H (upd (upd H2 p1 (.tup [.str "miss", .int p])) ev (.lst (gs.map V.ref ++ [.ref p1]))) := (((SameX.of s3).trans s2).trans (SameX.of (same_upd n1))).trans SameX.upd
        have k1 := (j1.imm im1).imm (Imm.upd (o := .lst (gs.map V.ref ++ [.ref p1])) ⟨_, q1'⟩)
        have k2 := (j2.same (same_upd (o := .tup [.str "miss", .int p]) n1)).x nDe (SameX.upd (o := .lst (gs.map V.ref ++ [.ref p1]))) ⟨_, q1'⟩
        have k3 : IsEv K (upd (upd H2 p1 (.tup [.str "miss", .int p])) ev (.lst (gs.map V.ref ++ [.ref p1]))) ev (es ++ (laidP rm sh p false).2 ++ [(("miss" : Str), p)]) := IsEv.put q1' (q2.imm im1) (sqt upd_same)
        generalize upd (upd H2 p1 (.tup [.str "miss", .int p])) ev (.lst (gs.map V.ref ++ [.ref p1])) = H3 at sX k1 k2 k3 ⊢
        and_intros
        intro p2 n2
        rw [List.append_assoc] at k3
        exact q p2 a2 D _ (sX.trans (SameX.of (same_upd n2))) nDe (.inr nD) (sqt upd_same) (k1.imm (Imm.same (same_upd n2))) (k2.same (same_upd n2)) (k3.same (same_upd n2))
      · refine iteB0 (decide_eq_false fun z => cm (lcm.mp z)) ?_
        rw [if_neg cm] at q
        and_intros
        refine ⟨h, a, ev, pl, rm, lt, ms, p, false, sh, es, rfl, hh', ⟨as, hs', ps'⟩, he', h1, hls, by omega, fun a2 H2 s2 j1 j3 => ?_⟩
        have j2 := hR.x nDe s2 he'.at_
        have ll := laidP_len (room := rm) (sh := sh) (p := p) (w := false)
        and_intros
        obtain ⟨gs, q1, q2⟩ := j3
        refine ⟨.inl ⟨rfl, _, sql q1⟩, ?_⟩
        and_intros
        intro p1 n1
        have q1' := same_upd (o := .tup [.str "late", .int p]) n1 _ _ q1
        have im1 : Imm H2 (upd H2 p1 (.tup [.str "late", .int p])) := Imm.same (same_upd n1)
        have les : gs.length = (es ++ (laidP rm sh p false).2).length := Paired.length q2
        rw [List.length_append] at les
        and_intros
        refine ⟨_, _, _, rfl, rfl, q1', by rw [List.length_map]; exact szl (by omega), ?_⟩
        have sX : SameX ev H (upd (upd H2 p1 (.tup [.str "late", .int p])) ev (.lst (gs.map V.ref ++ [.ref p1]))) := (((SameX.of s3).trans s2).trans (SameX.of (same_upd n1))).trans SameX.upd
        have k1 := (j1.imm im1).imm (Imm.upd (o := .lst (gs.map V.ref ++ [.ref p1])) ⟨_, q1'⟩)
        have k2 := (j2.same (same_upd (o := .tup [.str "late", .int p]) n1)).x nDe (SameX.upd (o := .lst (gs.map V.ref ++ [.ref p1]))) ⟨_, q1'⟩
        have k3 : IsEv K (upd (upd H2 p1 (.tup [.str "late", .int p])) ev (.lst (gs.map V.ref ++ [.ref p1]))) ev (es ++ (laidP rm sh p false).2 ++ [(("late" : Str), p)]) := IsEv.put q1' (q2.imm im1) (sqt upd_same)
        generalize upd (upd H2 p1 (.tup [.str "late", .int p])) ev (.lst (gs.map V.ref ++ [.ref p1])) = H3 at sX k1 k2 k3 ⊢
        and_intros
        intro p2 n2
        rw [List.append_assoc] at k3
        exact q p2 a2 D _ (sX.trans (SameX.of (same_upd n2))) nDe (.inr nD) (sqt upd_same) (k1.imm (Imm.same (same_upd n2))) (k2.same (same_upd n2)) (k3.same (same_upd n2))
end
end St

namespace St
open PySem PySem.Spec PyProof.Rows L2
abbrev s_started : Stmt := topS 31
abbrev N_started : List Str := ["house", "shelf", "way", "guessed", "events", "found", "place", "there", "one"]
abbrev p_started : List Str := ["house", "shelf", "way", "guessed", "events"]
theorem sc_started : FnScope N_started p_started (defScope s_started) := ⟨rfl, rfl, rfl, by decide +kernel, rfl, by decide +kernel, by decide +kernel⟩
section
variable {P : Program} {w : World} {K : PySem.W.Frag} {mg : Str → Option Value} {base : Heap} {f C : Addr} {fd : FuncData}
def spStarted (K : PySem.W.Frag) (C : Addr) : Sp := fun vs H Q _ => ∃ (h a b g ev : Addr) (pl rm lt ms : Int) (sh : Shelf) (wy : Way) (gs : List Int) (es : Evs), vs = [.ref h, .ref a, .ref b, .ref g, .ref ev] ∧ IsH C H h pl rm lt ms ∧ IsSh K H a sh ∧ IsWL K H b wy ∧ g ≠ ev ∧ H g = some (.lst (gs.map V.int)) ∧ IsEv K H ev es ∧ sh.length ≤ 1000 ∧ wy.length ≤ 1000 ∧ gs.length ≤ 1000 ∧ es.length ≤ 10000 ∧
  ∀ (b' : Addr) H', SameX ev H H' → H b' = none → b' ≠ ev → IsWL K H' b' (startedP pl lt ms sh wy gs).1 → IsEv K H' ev (es ++ (startedP pl lt ms sh wy gs).2) → Q (.ref b') H'
theorem startedP_len (pl lt ms : Int) (sh : Shelf) (wy : Way) : ∀ (gs : List Int) (i : Nat), ((gs.take i).foldl (startS pl lt ms sh) (wy, [])).1.length ≤ wy.length + i ∧ ((gs.take i).foldl (startS pl lt ms sh) (wy, [])).2.length ≤ i
  | gs, 0 => by rw [List.take_zero]; exact ⟨Nat.le_refl _, Nat.le_refl _⟩
  | gs, i + 1 => by
    have ih := startedP_len pl lt ms sh wy gs i
    rw [List.take_add_one, List.foldl_append]
    generalize (gs.take i).foldl (startS pl lt ms sh) (wy, []) = s at ih
    cases e : gs[i]? with
    | none => exact ⟨Nat.le_succ_of_le ih.1, Nat.le_succ_of_le ih.2⟩
    | some x =>
      show (startS pl lt ms sh s x).1.length ≤ _ ∧ (startS pl lt ms sh s x).2.length ≤ _
      unfold startS
      split
      · refine ⟨?_, ?_⟩
        · show (s.1 ++ [_]).length ≤ _
          rw [List.length_append]
          exact Nat.succ_le_succ ih.1
        · show (s.2 ++ [_]).length ≤ _
          rw [List.length_append]
          exact Nat.succ_le_succ ih.2
      · exact ⟨Nat.le_succ_of_le ih.1, Nat.le_succ_of_le ih.2⟩
theorem ok_started (T : Nms mg) (HC : HouseC K C) (F : Fun K "started" "started" s_started f fd) : FnOk P w K mg base CX0 1 f fd p_started (spStarted K C) := by
  refine F.ok sc_started (fun vs H Q E h => ?_) (fun cdv A outer s H vs Q E hr h => ?_)
  · obtain ⟨h, a, b, g, ev, pl, rm, lt, ms, sh, wy, gs, es, rfl, _⟩ := h
    rfl
  obtain ⟨h, a, b, g, ev, pl, rm, lt, ms, sh, wy, gs, es, rfl, hh, hs, hw, nge, hg, he, hls, hlw, hlg, hle, q⟩ := h
  refine ⟨_, (pss_cons (ps_set (i := 5) sc_started.nd rfl (Or.inl rfl) (pe_callTy call_list_of (by rfl) T.n_list (by decide +kernel) (pa_cons (pv 2) pa_nil)))
  (pss_cons (ps_for PassesOwn.never rfl (pi_list (pv 3)) (pg_name (i := 6) sc_started.nd rfl (Or.inl rfl))
    (pss_cons (ps_set (i := 7) sc_started.nd rfl (Or.inl rfl) (pe_op op_cat (pe_lc (own := [("one", 8)]) (g := gName 8) rfl sc_started.nd (pi_tup (pv 1)) (blkOk_by (own := [("one", 8)]) (N := N_started) (sc := defScope s_started) (by decide +kernel)) (fun _ _ _ _ _ => pg_name (i := 8) sc_started.nd rfl (Or.inl rfl)) (fun _ _ _ _ _ => pts_nil) (fun _ _ _ _ _ => (pe_ix (ix_tupK (K := K)) (pv 8) pe_int (fun _ _ => rfl)))) (pe_lc (own := [("one", 8)]) (g := gName 8) rfl sc_started.nd (pi_list (pv 5)) (blkOk_by (own := [("one", 8)]) (N := N_started) (sc := defScope s_started) (by decide +kernel)) (fun _ _ _ _ _ => pg_name (i := 8) sc_started.nd rfl (Or.inl rfl)) (fun _ _ _ _ _ => pts_nil) (fun _ _ _ _ _ => (pe_ix (ix_tupK (K := K)) (pv 8) pe_int (fun _ _ => rfl))))))
    (pss_one (ps_if (PW.pt (pw_and (pt_chain op_le op_lt pe_int (pv 6) (pe_fld (pv 0) rfl)) (pw_and (pt_cmpR op_notIn_seq (pv 6) (pv 7) (by with_unfolding_all rfl)) (pw_and1 (pt_cmpR op_lt (pe_callB call_len_seq (by rfl) T.n_len (by decide +kernel) (pa_cons (pv 5) pa_nil)) (pe_fld (pv 0) rfl) (nomark _))))))
      (pss_cons (ps_expr (pe_bm PySem.F.plainAttrs_list PySem.F.slot_list_append PySem.F.type_list_append mt_append (pv 5) (pa_cons (pe_tup (pa_cons (pv 6) (pa_cons (pe_fld (pv 0) rfl) pa_nil))) pa_nil)))
      (pss_one (ps_expr (pe_bm PySem.F.plainAttrs_list PySem.F.slot_list_append PySem.F.type_list_append mt_append (pv 4) (pa_cons (pe_tup (pa_cons pe_str (pa_cons (pv 6) pa_nil))) pa_nil)))))
      (pss_nil)))))
  (pss_one (ps_ret (pv 5))))), ?_⟩
  obtain ⟨ws, w1, w2⟩ := id hw
  refine ⟨_, rfl, _, _, rfl, .inl (sql w1), fun D nD => ?_⟩
  have nDe : D ≠ ev := (ne_of_none he.at_.choose_spec nD).symm
  and_intros
  refine ⟨⟨_, sql (same_upd nD _ _ hg)⟩, ?_⟩
  refine for_list (xs := gs.map V.int) (fun i σ H' => ∃ y6 y7, σ = [some (.ref h), some (.ref a), some (.ref b), some (.ref g), some (.ref ev), some (.ref D), y6, y7, none] ∧ SameX ev H H' ∧ IsWL K H' D ((gs.take i).foldl (startS pl lt ms sh) (wy, [])).1 ∧ IsEv K H' ev (es ++ ((gs.take i).foldl (startS pl lt ms sh) (wy, [])).2))
    ⟨none, none, rfl, SameX.of (same_upd nD), ⟨ws, upd_same, w2.imm (Imm.same (same_upd nD))⟩, by rw [List.take_zero]; show IsEv K _ ev (es ++ []); rw [List.append_nil]; exact he.same (same_upd nD)⟩ (fun i σ H' _ h => ?_) (fun i x σ H' hi h => ?_) (fun σ H' h => ?_)
  · obtain ⟨y6, y7, rfl, sX, _⟩ := h
    exact sql (sX _ _ nge hg)
  · obtain ⟨y6, y7, rfl, sX, i1, i2⟩ := h
    obtain ⟨p, rfl, eg, tk⟩ := at_ints hi
    have efold : (gs.take (i + 1)).foldl (startS pl lt ms sh) (wy, []) = startS pl lt ms sh ((gs.take i).foldl (startS pl lt ms sh) (wy, [])) p := by rw [tk, List.foldl_append]; rfl
    rw [efold]
    have ll := startedP_len pl lt ms sh wy gs i
    generalize (gs.take i).foldl (startS pl lt ms sh) (wy, []) = st at i1 i2 ll efold
    have hi' : i < gs.length := (List.getElem?_eq_some_iff.mp eg).1
    obtain ⟨as, hs1, hs2⟩ := hs.imm (Imm.sameX sX he.at_)
    obtain ⟨dx, hh'⟩ := hh.x sX he.at_
    obtain ⟨ds, d1, d2⟩ := id i1
    obtain ⟨fs, e1, e2⟩ := id i2
    have las : as.length = sh.length := Paired.length hs2
    have lds : ds.length = st.1.length := Paired.length d2
    have lfs : fs.length = (es ++ st.2).length := Paired.length e2
    rw [List.length_append] at lfs
    and_intros
    refine ⟨⟨_, hs1⟩, fun L nL => ?_⟩
    refine lc_tup (xs := as.map V.ref) (fun i H2 => Same H' H2 ∧ H2 L = some (.lst (((sh.map (·.1)).take i).map V.int))) ⟨same_upd nL, upd_same⟩ (fun i H2 _ h => same_t h.1 hs1) (fun i y H2 hi h => ?_) (fun H2 h => ?_)
    · obtain ⟨u, o, rfl, hu, tk2, eg2⟩ := pr_at (hs2.imm (Imm.same h.1)) hi
      have hi2 := (List.getElem?_eq_some_iff.mp eg2).1
      and_intros
      refine ⟨_, h.2, by rw [List.length_map, List.length_take, List.length_map]; exact szl (by omega), same_mut h.1 nL, ?_⟩
      rw [upd_same, ← List.map_take, ← List.map_take, tk2, List.map_append, List.map_append]
      rfl
    · have hL : H2 L = some (.lst ((sh.map (·.1)).map V.int)) := by
        have z := h.2
        rw [show (sh.map (·.1)).take (as.map V.ref).length = sh.map (·.1) by rw [List.length_map, las]; exact List.take_of_length_le (by rw [List.length_map]; exact Nat.le_refl _)] at z
        exact z
      have d1' := h.1 _ _ d1
      have hs' : Same H' H2 := h.1
      clear h
      and_intros
      refine ⟨⟨_, sql d1'⟩, fun M nM => ?_⟩
      refine lc_list (xs := ds.map V.ref) (fun i H3 => Same H2 H3 ∧ H3 M = some (.lst (((st.1.map (·.1)).take i).map V.int))) ⟨same_upd nM, upd_same⟩ (fun i H3 _ h => sql (h.1 _ _ d1')) (fun i y H3 hi h => ?_) (fun H3 h3 => ?_)
      · obtain ⟨u, o, rfl, hu, tk2, eg2⟩ := pr_at (d2.imm (Imm.same (hs'.trans h.1))) hi
        have hi2 := (List.getElem?_eq_some_iff.mp eg2).1
        and_intros
        refine ⟨_, h.2, by rw [List.length_map, List.length_take, List.length_map]; exact szl (by omega), same_mut h.1 nM, ?_⟩
        rw [upd_same, ← List.map_take, ← List.map_take, tk2, List.map_append, List.map_append]
        rfl
      · have hM : H3 M = some (.lst ((st.1.map (·.1)).map V.int)) := by
          have z := h3.2
          rw [show (st.1.map (·.1)).take (ds.map V.ref).length = st.1.map (·.1) by rw [List.length_map, lds]; exact List.take_of_length_le (by rw [List.length_map]; exact Nat.le_refl _)] at z
          exact z
        refine ⟨_, _, _, _, rfl, rfl, h3.1 _ _ hL, hM, by simp only [List.length_map]; exact sz (by omega), fun N nN => ?_⟩
        rw [← List.map_append]
        have s4 : Same H' (upd H3 N (.lst ((sh.map (·.1) ++ st.1.map (·.1)).map V.int))) := (hs'.trans h3.1).trans (same_upd nN)
        have hN : (upd H3 N (.lst ((sh.map (·.1) ++ st.1.map (·.1)).map V.int))) N = some (.lst ((sh.map (·.1) ++ st.1.map (·.1)).map V.int)) := upd_same
        generalize upd H3 N (.lst ((sh.map (·.1) ++ st.1.map (·.1)).map V.int)) = H4 at s4 hN ⊢
        have hh4 := s4 _ _ hh'
        have i1' := i1.same s4
        have i2' := i2.same s4
        have sX4 := sX.trans (SameX.of s4)
        and_intros
        have out : ¬ ((0 ≤ p ∧ p < pl) ∧ p ∉ sh.map (·.1) ++ st.1.map (·.1) ∧ ((st.1.length : Nat) : Int) < ms) → IsWL K H4 D (startS pl lt ms sh st p).1 ∧ IsEv K H4 ev (es ++ (startS pl lt ms sh st p).2) := fun z => by
          rw [show startS pl lt ms sh st p = st from if_neg z]
          exact ⟨i1', i2'⟩
        by_cases c1 : 0 ≤ p
        · refine iteB (decide_eq_true c1) ?_
          refine ⟨_, rfl, h, C, dx, _, _, rfl, hh4, HC.cl, HC.places, hfl_places _ _ _ _, ?_⟩
          and_intros
          by_cases c2 : p < pl
          · refine iteB (decide_eq_true c2) ?_
            and_intros
            refine ⟨flat_ints _, ?_⟩
            rw [inV_ints]
            by_cases c3 : p ∈ sh.map (·.1) ++ st.1.map (·.1)
            · rw [decide_eq_true c3]
              refine ⟨_, rfl, iteB0 (b := !true) rfl ?_⟩
              refine iteB0 rfl ?_
              exact ⟨_, _, rfl, sX4, out fun z => z.2.1 c3⟩
            · rw [decide_eq_false c3]
              refine ⟨_, rfl, iteB (b := !false) rfl ?_⟩
              obtain ⟨ds4, q1, q2⟩ := id i1'
              have lds4 : ds4.length = st.1.length := Paired.length q2
              and_intros
              refine ⟨h, C, dx, _, _, rfl, hh4, HC.cl, HC.most, hfl_most _ _ _ _, ?_⟩
              and_intros
              by_cases c4 : ((st.1.length : Nat) : Int) < ms
              · refine iteB (decide_eq_true (by rw [List.length_map, lds4]; exact c4)) ?_
                have es_ : startS pl lt ms sh st p = (st.1 ++ [(p, lt)], st.2 ++ [(("start" : Str), p)]) := if_pos ⟨⟨c1, c2⟩, c3, c4⟩
                rw [es_]
                and_intros
                refine ⟨.inl ⟨rfl, _, sql q1⟩, ?_⟩
                and_intros
                refine ⟨h, C, dx, _, _, rfl, hh4, HC.cl, HC.late, hfl_late _ _ _ _, ?_⟩
                and_intros
                intro p1 n1
                have q1' := same_upd (o := .tup [.int p, .int lt]) n1 _ _ q1
                have im1 : Imm H4 (upd H4 p1 (.tup [.int p, .int lt])) := Imm.same (same_upd n1)
                and_intros
                refine ⟨_, _, _, rfl, rfl, q1', by rw [List.length_map]; exact szl (by omega), ?_⟩
                have k1 : IsWL K (upd (upd H4 p1 (.tup [.int p, .int lt])) D (.lst (ds4.map V.ref ++ [.ref p1]))) D (st.1 ++ [(p, lt)]) := IsWL.put q1' (q2.imm im1) (sqt upd_same)
                obtain ⟨fs4, v1, v2⟩ := i2'.same (same_upd (o := .tup [.int p, .int lt]) n1)
                have k2 : IsEv K (upd (upd H4 p1 (.tup [.int p, .int lt])) D (.lst (ds4.map V.ref ++ [.ref p1]))) ev (es ++ st.2) := ⟨fs4, by rw [upd_ne nDe.symm]; exact v1, v2.imm (Imm.upd ⟨_, q1'⟩)⟩
                have k3 : SameX ev H (upd (upd H4 p1 (.tup [.int p, .int lt])) D (.lst (ds4.map V.ref ++ [.ref p1]))) := samex_mut (sX4.trans (SameX.of (same_upd n1))) nD
                generalize upd (upd H4 p1 (.tup [.int p, .int lt])) D (.lst (ds4.map V.ref ++ [.ref p1])) = H5 at k1 k2 k3 ⊢
                obtain ⟨fs5, v1, v2⟩ := id k2
                have lfs5 : fs5.length = (es ++ st.2).length := Paired.length v2
                rw [List.length_append] at lfs5
                and_intros
                refine ⟨.inl ⟨rfl, _, sql v1⟩, ?_⟩
                and_intros
                intro p2 n2
                have v1' := same_upd (o := .tup [.str "start", .int p]) n2 _ _ v1
                and_intros
                refine ⟨_, _, _, rfl, rfl, v1', by rw [List.length_map]; exact szl (by omega), ?_⟩
                have k4 : IsEv K (upd (upd H5 p2 (.tup [.str "start", .int p])) ev (.lst (fs5.map V.ref ++ [.ref p2]))) ev (es ++ st.2 ++ [(("start" : Str), p)]) := IsEv.put v1' (v2.imm (Imm.same (same_upd n2))) (sqt upd_same)
                rw [List.append_assoc] at k4
                exact ⟨_, _, rfl, (k3.trans (SameX.of (same_upd n2))).trans SameX.upd, (k1.same (same_upd n2)).x nDe SameX.upd ⟨_, v1'⟩, k4⟩
              · refine iteB0 (decide_eq_false (by rw [List.length_map, lds4]; exact c4)) ?_
                exact ⟨_, _, rfl, sX4, out fun z => c4 z.2.2⟩
          · refine iteB0 (decide_eq_false c2) ?_
            refine iteB0 rfl ?_
            exact ⟨_, _, rfl, sX4, out fun z => c2 z.1.2⟩
        · refine iteB0 (decide_eq_false c1) ?_
          refine ⟨_, rfl, iteB0 rfl ?_⟩
          refine iteB0 rfl ?_
          exact ⟨_, _, rfl, sX4, out fun z => c1 z.1.1⟩
  · obtain ⟨y6, y7, rfl, sX, i1, i2⟩ := h
    rw [show gs.take (gs.map V.int).length = gs by rw [List.length_map]; exact List.take_length] at i1 i2
    and_intros
    exact q D H' sX nD nDe i1 i2
end
end St

namespace St
open PySem PySem.Spec PyProof.Rows L2
abbrev s_gone_on : Stmt := topS 32
abbrev N_gone_on : List Str := ["house", "guesser", "state", "place", "events", "shelf", "way", "known", "guessed"]
abbrev p_gone_on : List Str := ["house", "guesser", "state", "place"]
theorem sc_gone_on : FnScope N_gone_on p_gone_on (defScope s_gone_on) := ⟨rfl, rfl, rfl, by decide +kernel, rfl, by decide +kernel, by decide +kernel⟩
abbrev s_begun : Stmt := topS 27
abbrev N_begun : List Str := ["guesser"]
abbrev p_begun : List Str := ["guesser"]
theorem sc_begun : FnScope N_begun p_begun (defScope s_begun) := ⟨rfl, rfl, rfl, by decide +kernel, rfl, by decide +kernel, by decide +kernel⟩
/-- a run's state -/
abbrev RSt := Shelf × Way × Sg
def IsSt (K : PySem.W.Frag) (H : Hp) (a : Addr) (s : RSt) : Prop := ∃ (a1 a2 : Addr) (v : V), SqT K H a [.ref a1, .ref a2, v] ∧ IsSh K H a1 s.1 ∧ IsWT K H a2 s.2.1 ∧ IsS K H s.2.2 v
theorem IsSt.imm {K : PySem.W.Frag} {H H' : Hp} {a : Addr} {s : RSt} (h : IsSt K H a s) (e : Imm H H') : IsSt K H' a s := by
  obtain ⟨a1, a2, v, h1, h2, h3, h4⟩ := h
  exact ⟨a1, a2, v, e.t h1, h2.imm e, h3.imm e, h4.imm e⟩
def goneP (pl rm lt ms : Int) (g : G) (s : RSt) (p : Int) : RSt × Evs :=
  (((askedP rm (comeP rm s.1 s.2.1).1 (comeP rm s.1 s.2.1).2.1 p).1, (startedP pl lt ms (askedP rm (comeP rm s.1 s.2.1).1 (comeP rm s.1 s.2.1).2.1 p).1 (askedP rm (comeP rm s.1 s.2.1).1 (comeP rm s.1 s.2.1).2.1 p).2.1 (stepG g s.2.2 p).2).1, (stepG g s.2.2 p).1),
   (comeP rm s.1 s.2.1).2.2 ++ (askedP rm (comeP rm s.1 s.2.1).1 (comeP rm s.1 s.2.1).2.1 p).2.2 ++ (startedP pl lt ms (askedP rm (comeP rm s.1 s.2.1).1 (comeP rm s.1 s.2.1).2.1 p).1 (askedP rm (comeP rm s.1 s.2.1).1 (comeP rm s.1 s.2.1).2.1 p).2.1 (stepG g s.2.2 p).2).2)
theorem askedP_len (rm : Int) (sh : Shelf) (wy : Way) (p : Int) : (askedP rm sh wy p).1.length ≤ sh.length + 1 ∧ (askedP rm sh wy p).2.1.length ≤ wy.length ∧ (askedP rm sh wy p).2.2.length ≤ 2 := by
  unfold askedP
  split
  · refine ⟨?_, Nat.le_refl _, by show 1 ≤ 2; decide⟩
    show (_ ++ [_]).length ≤ _
    rw [List.length_append]
    exact Nat.succ_le_succ (List.length_filter_le _ _)
  · have ll := laidP_len (room := rm) (sh := sh) (p := p) (w := false)
    refine ⟨ll.1, List.length_filter_le _ _, ?_⟩
    show (_ ++ [_]).length ≤ _
    rw [List.length_append]
    exact Nat.succ_le_succ ll.2
theorem sameX_same {H H1 H' : Hp} {r : Addr} (a : Same H H1) (b : SameX r H1 H') (n : H r = none) : Same H H' := fun c o h => b c o (ne_of_none h n) (a c o h)
section
variable {P : Program} {w : World} {K : PySem.W.Frag} {mg : Str → Option Value} {base : Heap} {f f1 f2 f3 f4 f5 f6 f7 C : Addr} {fd fd1 fd2 fd3 fd4 fd5 fd6 fd7 : FuncData}
def GoneQ (K : PySem.W.Frag) (H : Hp) (Q : VK) (r : RSt × Evs) : Prop := ∀ (q st ev : Addr) (H' : Hp), Same H H' → H ev = none → H' q = some (.tup [.ref st, .ref ev]) → IsSt K H' st r.1 → IsEv K H' ev r.2 → Q (.ref q) H'
def spGone (K : PySem.W.Frag) (C : Addr) : Sp := fun vs H Q _ => ∃ (h st : Addr) (v : V) (g : G) (pl rm lt ms p : Int) (s : RSt) (N : Nat), vs = [.ref h, v, .ref st, .int p] ∧ IsH C H h pl rm lt ms ∧ IsG K H g v ∧ good 3 g = true ∧ IsSt K H st s ∧ Fit g s.2.2 ∧ okS N s.2.2 ∧ N ≤ 10000 ∧ 1 ≤ rm ∧ s.1.length ≤ 100 ∧ s.2.1.length ≤ 100 ∧
  GoneQ K H Q (goneP pl rm lt ms g s p)
theorem ok_gone_on (T : Nms mg) (HC : HouseC K C) (D_laid : Df K mg "laid" s_laid p_laid f1 fd1) (D_come : Df K mg "come" s_come p_come f2 fd2) (D_asked : Df K mg "asked" s_asked p_asked f3 fd3) (D_started : Df K mg "started" s_started p_started f4 fd4)
    (D_strided : Df K mg "strided" s_strided p_strided f5 fd5) (D_paired : Df K mg "paired" s_paired p_paired f6 fd6) (D_stepped : Df K mg "stepped" s_stepped p_stepped f7 fd7) (F : Fun K "gone_on" "gone_on" s_gone_on f fd) : FnOk P w K mg base CX0 6 f fd p_gone_on (spGone K C) := by
  have G_come : FnOk P w K mg base CX0 2 f2 fd2 p_come (spCome K C) := ok_come T HC D_laid D_come.F
  have G_asked : FnOk P w K mg base CX0 2 f3 fd3 p_asked (spAsked K C) := ok_asked T HC D_laid D_asked.F
  have G_started : FnOk P w K mg base CX0 1 f4 fd4 p_started (spStarted K C) := ok_started T HC D_started.F
  have G_stepped : FnOk P w K mg base CX0 5 f7 fd7 p_stepped (spStepped K 4) := ok_stepped T D_strided D_paired D_stepped 4
  refine F.ok sc_gone_on (fun vs H Q E h => ?_) (fun cdv A outer s H vs Q E hr h => ?_)
  · obtain ⟨h, st, v, g, pl, rm, lt, ms, p, s, N, rfl, _⟩ := h
    rfl
  obtain ⟨h, st, v, g, pl, rm, lt, ms, p, s, N, rfl, hh, hG, hg, ⟨a1, a2, v3, hst, hsh, hwy, hkn⟩, hf, ho, hN, h1, hls, hlw, q⟩ := h
  obtain ⟨sh, wy, kn⟩ := s
  refine ⟨_, (pss_cons (ps_set (i := 4) sc_gone_on.nd rfl (Or.inl rfl) (pe_lst pa_nil))
  (pss_cons (ps_asg (pe_call G_come (hr.mono (by first | decide | omega)) (by rfl) D_come.m D_come.F.kp D_come.b .nil pass0 (pa_cons (pv 0) (pa_cons (pe_ix ix_tup (pv 2) pe_int (fun _ _ => rfl)) (pa_cons (pe_ix ix_tup (pv 2) pe_int (fun _ _ => rfl)) (pa_cons (pv 4) pa_nil))))) (pg_tup rfl (pgs_cons (pg_name (i := 5) sc_gone_on.nd rfl (Or.inl rfl)) (pgs_cons (pg_name (i := 6) sc_gone_on.nd rfl (Or.inl rfl)) pgs_nil))))
  (pss_cons (ps_asg (pe_call G_asked (hr.mono (by first | decide | omega)) (by rfl) D_asked.m D_asked.F.kp D_asked.b .nil pass0 (pa_cons (pv 0) (pa_cons (pv 5) (pa_cons (pv 6) (pa_cons (pv 3) (pa_cons (pv 4) pa_nil)))))) (pg_tup rfl (pgs_cons (pg_name (i := 5) sc_gone_on.nd rfl (Or.inl rfl)) (pgs_cons (pg_name (i := 6) sc_gone_on.nd rfl (Or.inl rfl)) pgs_nil))))
  (pss_cons (ps_asg (pe_call G_stepped (hr.mono (by first | decide | omega)) (by rfl) D_stepped.m D_stepped.F.kp D_stepped.b .nil pass0 (pa_cons (pv 1) (pa_cons (pe_ix ix_tup (pv 2) pe_int (fun _ _ => rfl)) (pa_cons (pv 3) pa_nil)))) (pg_tup rfl (pgs_cons (pg_name (i := 7) sc_gone_on.nd rfl (Or.inl rfl)) (pgs_cons (pg_name (i := 8) sc_gone_on.nd rfl (Or.inl rfl)) pgs_nil))))
  (pss_cons (ps_set (i := 6) sc_gone_on.nd rfl (Or.inl rfl) (pe_call G_started (hr.mono (by first | decide | omega)) (by rfl) D_started.m D_started.F.kp D_started.b .nil pass0 (pa_cons (pv 0) (pa_cons (pv 5) (pa_cons (pv 6) (pa_cons (pv 8) (pa_cons (pv 4) pa_nil)))))))
  (pss_one (ps_ret (pe_tup (pa_cons (pe_tup (pa_cons (pv 5) (pa_cons (pe_callTy call_tuple_of (by rfl) T.n_tuple (by decide +kernel) (pa_cons (pv 6) pa_nil)) (pa_cons (pv 7) pa_nil)))) (pa_cons (pv 4) pa_nil)))))))))), ?_⟩
  and_intros
  intro ev nev
  have he0 : IsEv K (upd H ev (.lst [])) ev [] := ⟨[], upd_same, .nil⟩
  have s0 : Same H (upd H ev (.lst [])) := same_upd nev
  have hst0 := same_t s0 hst
  have hsh0 := hsh.imm (Imm.same s0)
  have hwy0 := hwy.imm (Imm.same s0)
  have hh0 := hh.same s0
  generalize upd H ev (.lst []) = H0 at he0 s0 hst0 hsh0 hwy0 hh0 ⊢
  and_intros
  refine ⟨h, a1, a2, ev, pl, rm, lt, ms, sh, wy, rfl, hh0, hsh0, hwy0, he0, h1, hls, hlw, fun q1 b1 b2 H1 sX1 n1 n1e hq1 i1 i2 i3 => ?_⟩
  have s1 := sameX_same s0 sX1 nev
  have clw := comeP_len rm sh wy wy.length
  rw [List.take_length] at clw
  refine ⟨q1, _, rfl, hq1, rfl, _, _, rfl, _, _, rfl, rfl, ?_⟩
  and_intros
  have clw' : (comeP rm sh wy).1.length ≤ sh.length + wy.length ∧ (comeP rm sh wy).2.1.length ≤ wy.length ∧ (comeP rm sh wy).2.2.length ≤ 2 * wy.length := clw
  have q' : GoneQ K H Q (((askedP rm (comeP rm sh wy).1 (comeP rm sh wy).2.1 p).1, (startedP pl lt ms (askedP rm (comeP rm sh wy).1 (comeP rm sh wy).2.1 p).1 (askedP rm (comeP rm sh wy).1 (comeP rm sh wy).2.1 p).2.1 (stepG g kn p).2).1, (stepG g kn p).1),
   (comeP rm sh wy).2.2 ++ (askedP rm (comeP rm sh wy).1 (comeP rm sh wy).2.1 p).2.2 ++ (startedP pl lt ms (askedP rm (comeP rm sh wy).1 (comeP rm sh wy).2.1 p).1 (askedP rm (comeP rm sh wy).1 (comeP rm sh wy).2.1 p).2.1 (stepG g kn p).2).2) := q
  have hls : sh.length ≤ 100 := hls
  have hlw : wy.length ≤ 100 := hlw
  generalize comeP rm sh wy = c at i1 i2 i3 clw' q'
  obtain ⟨csh, cwy, ces⟩ := c
  have al := askedP_len rm csh cwy p
  have cl1 : csh.length ≤ sh.length + wy.length := clw'.1
  have cl2 : cwy.length ≤ wy.length := clw'.2.1
  have cl3 : ces.length ≤ 2 * wy.length := clw'.2.2
  refine ⟨h, b1, b2, ev, pl, rm, lt, ms, p, csh, cwy, ces, rfl, hh.same s1, i1, i2, n1e, i3, h1, by omega, by omega, by omega, fun q2 b3 b4 H2 sX2 n2e b4o hq2 j1 j2 j3 => ?_⟩
  have s2 := sameX_same s1 sX2 nev
  refine ⟨q2, _, rfl, hq2, rfl, _, _, rfl, _, _, rfl, rfl, ?_⟩
  have q'' : GoneQ K H Q (((askedP rm csh cwy p).1, (startedP pl lt ms (askedP rm csh cwy p).1 (askedP rm csh cwy p).2.1 (stepG g kn p).2).1, (stepG g kn p).1),
   ces ++ (askedP rm csh cwy p).2.2 ++ (startedP pl lt ms (askedP rm csh cwy p).1 (askedP rm csh cwy p).2.1 (stepG g kn p).2).2) := q'
  generalize askedP rm csh cwy p = d at j1 j2 j3 al q''
  obtain ⟨dsh, dwy, des⟩ := d
  have al1 : dsh.length ≤ csh.length + 1 := al.1
  have al2 : dwy.length ≤ cwy.length := al.2.1
  have al3 : des.length ≤ 2 := al.2.2
  have hst2 := same_t s2 hst
  and_intros
  refine ⟨v, v3, g, kn, p, 3, N, rfl, hG.same s2, hkn.same s2, hg, by omega, by omega, hf, ho, hN, fun q3 gl v4 H3 s3 n3 k1 k2 k3 => ?_⟩
  have s23 := s2.trans s3
  refine ⟨q3, _, rfl, sqt k3, rfl, _, _, rfl, _, _, rfl, rfl, ?_⟩
  have gl24 := stepG_len (p := p) hg hf ho
  have q3' : GoneQ K H Q ((dsh, (startedP pl lt ms dsh dwy (stepG g kn p).2).1, (stepG g kn p).1), ces ++ des ++ (startedP pl lt ms dsh dwy (stepG g kn p).2).2) := q''
  generalize (stepG g kn p).2 = gs at k2 gl24 q3'
  generalize (stepG g kn p).1 = kn' at k1 q3'
  have nge : gl ≠ ev := (ne_of_none j3.at_.choose_spec n3).symm
  and_intros
  refine ⟨h, b3, b4, gl, ev, pl, rm, lt, ms, dsh, dwy, gs, ces ++ des, rfl, hh.same s23, j1.imm (Imm.same s3), j2.same s3, nge, k2, j3.same s3, by omega, by omega, by omega, by rw [List.length_append]; omega, fun b5 H4 sX4 n5 n5e m1 m2 => ?_⟩
  have s4 := sameX_same s23 sX4 nev
  have l3 := (j3.same s3).at_
  have j14 := (j1.imm (Imm.same s3)).imm (Imm.sameX sX4 l3)
  have k14 := k1.imm (Imm.sameX sX4 l3)
  have stl := startedP_len pl lt ms dsh dwy gs gs.length
  obtain ⟨cs, c1, c2⟩ := m1
  and_intros
  refine ⟨_, _, rfl, .inl ⟨sql c1, fun t nt => ?_⟩⟩
  and_intros
  intro p6 n6
  and_intros
  intro p7 n7
  have s47 : Same H4 (upd (upd (upd H4 t (.tup (cs.map V.ref))) p6 (.tup [.ref b3, .ref t, v4])) p7 (.tup [.ref p6, .ref ev])) := ((same_upd nt).trans (same_upd n6)).trans (same_upd n7)
  have et : SqT K (upd (upd (upd H4 t (.tup (cs.map V.ref))) p6 (.tup [.ref b3, .ref t, v4])) p7 (.tup [.ref p6, .ref ev])) t (cs.map V.ref) := sqt (same_upd n7 _ _ (same_upd n6 _ _ upd_same))
  have e6 : SqT K (upd (upd (upd H4 t (.tup (cs.map V.ref))) p6 (.tup [.ref b3, .ref t, v4])) p7 (.tup [.ref p6, .ref ev])) p6 [.ref b3, .ref t, v4] := sqt (same_upd n7 _ _ upd_same)
  exact q3' p7 p6 ev _ (s4.trans s47) nev upd_same ⟨b3, t, v4, e6, j14.imm (Imm.same s47), ⟨cs, et, c2.imm (Imm.same s47)⟩, k14.same s47⟩ (m2.same s47)
def spBegun (K : PySem.W.Frag) : Sp := fun vs H Q _ => ∃ (v : V) (g : G), vs = [v] ∧ IsG K H g v ∧ good 3 g = true ∧ ∀ (a : Addr) H', Same H H' → IsSt K H' a ([], [], first0 g) → Q (.ref a) H'
theorem ok_begun (T : Nms mg) (D_first_state : Df K mg "first_state" s_first_state p_first_state f1 fd1) (F : Fun K "begun" "begun" s_begun f fd) : FnOk P w K mg base CX0 5 f fd p_begun (spBegun K) := by
  have G_first_state : FnOk P w K mg base CX0 4 f1 fd1 p_first_state (spFirst K 4) := ok_first_state T D_first_state 4
  refine F.ok sc_begun (fun vs H Q E h => ?_) (fun cdv A outer s H vs Q E hr h => ?_)
  · obtain ⟨v, g, rfl, _⟩ := h
    rfl
  obtain ⟨v, g, rfl, hG, hg, q⟩ := h
  refine ⟨_, (pss_one (ps_ret (pe_tup (pa_cons (pe_tup pa_nil) (pa_cons (pe_tup pa_nil) (pa_cons (pe_call G_first_state (hr.mono (by first | decide | omega)) (by rfl) D_first_state.m D_first_state.F.kp D_first_state.b .nil pass0 (pa_cons (pv 0) pa_nil)) pa_nil)))))), ?_⟩
  and_intros
  intro p1 n1
  and_intros
  intro p2 n2
  and_intros
  have s2 : Same H (upd (upd H p1 (.tup [])) p2 (.tup [])) := (same_upd n1).trans (same_upd n2)
  refine ⟨v, g, 3, rfl, hG.same s2, hg, by omega, by omega, fun v3 H3 s3 i3 => ?_⟩
  and_intros
  intro p4 n4
  have e1 : SqT K (upd H3 p4 (.tup [.ref p1, .ref p2, v3])) p1 [] := sqt (same_upd n4 _ _ (s3 _ _ (same_upd n2 _ _ upd_same)))
  have e2 : SqT K (upd H3 p4 (.tup [.ref p1, .ref p2, v3])) p2 [] := sqt (same_upd n4 _ _ (s3 _ _ upd_same))
  exact q p4 _ ((s2.trans s3).trans (same_upd n4)) ⟨p1, p2, v3, sqt upd_same, ⟨[], e1, .nil⟩, ⟨[], e2, .nil⟩, i3.same (same_upd n4)⟩
end
end St

namespace St
open PySem PySem.Spec PyProof.Rows L2
/-! ### what the shelves keep -/
def ks {β : Type} (l : List (Int × β)) : List Int := l.map (·.1)
def isOut (w : Str) : Prop := w = "leave" ∨ w = "waste"
def isIn (w : Str) : Prop := w = "come" ∨ w = "late" ∨ w = "miss"
instance (w : Str) : Decidable (isOut w) := inferInstanceAs (Decidable (_ ∨ _))
instance (w : Str) : Decidable (isIn w) := inferInstanceAs (Decidable (_ ∨ _))
/-- the events turn the places that lie there from A to B -/
def Ch (pl : Int) : (Int → Prop) → Evs → (Int → Prop) → Prop
  | A, [], B => ∀ q, A q ↔ B q
  | A, (w, p) :: es, B => (0 ≤ p ∧ p < pl) ∧ if isOut w then A p ∧ Ch pl (fun q => A q ∧ q ≠ p) es B else if isIn w then Ch pl (fun q => A q ∨ q = p) es B else Ch pl A es B
theorem Ch.app {pl : Int} : ∀ {es fs : Evs} {A B C : Int → Prop}, Ch pl A es B → Ch pl B fs C → Ch pl A (es ++ fs) C
  | [], fs, A, B, C, h, g => by
    have e : A = B := funext fun q => propext (h q)
    subst e
    exact g
  | (w, p) :: es, fs, A, B, C, h, g => by
    show _ ∧ _
    refine ⟨h.1, ?_⟩
    have h2 := h.2
    by_cases c1 : isOut w
    · rw [if_pos c1] at h2 ⊢
      exact ⟨h2.1, Ch.app h2.2 g⟩
    · rw [if_neg c1] at h2 ⊢
      by_cases c2 : isIn w
      · rw [if_pos c2] at h2 ⊢
        exact Ch.app h2 g
      · rw [if_neg c2] at h2 ⊢
        exact Ch.app h2 g
theorem Ch.iff {pl : Int} {es : Evs} {A B C : Int → Prop} (h : Ch pl A es B) (e : ∀ q, B q ↔ C q) : Ch pl A es C := by
  have e : B = C := funext fun q => propext (e q)
  subst e
  exact h
theorem laid_inv {pl rm : Int} {sh : Shelf} {p : Int} {w : Bool} {word : Str} {r : List Int} (hw : isIn word) (h1 : 1 ≤ rm) (nd : (ks sh ++ p :: r).Nodup) (hr : ∀ q ∈ ks sh ++ p :: r, 0 ≤ q ∧ q < pl) :
    (ks (laidP rm sh p w).1 ++ r).Nodup ∧ (∀ q ∈ ks (laidP rm sh p w).1 ++ r, 0 ≤ q ∧ q < pl) ∧ Ch pl (· ∈ ks sh) ((laidP rm sh p w).2 ++ [(word, p)]) (· ∈ ks (laidP rm sh p w).1) := by
  have nOut : ¬ isOut word := by
    rcases hw with rfl | rfl | rfl <;> decide
  have hp := hr p (by simp)
  unfold laidP
  split
  · cases sh with
    | nil =>
      refine ⟨nd, hr, hp, ?_⟩
      rw [if_neg nOut, if_pos hw]
      intro q
      simp [ks]
    | cons e t =>
      have e0 : ks (t ++ [(p, w)]) ++ r = ks t ++ p :: r := by simp [ks]
      have nd' : (e.1 :: (ks t ++ p :: r)).Nodup := nd
      rw [List.nodup_cons] at nd'
      refine ⟨by rw [e0]; exact nd'.2, by rw [e0]; exact fun q hq => hr q (List.mem_cons_of_mem _ hq), hr e.1 (List.mem_cons_self ..), ?_⟩
      have o : isOut (if e.2 then "waste" else "leave" : Str) := by split <;> decide
      rw [if_pos o]
      refine ⟨List.mem_cons_self .., hp, ?_⟩
      rw [if_neg nOut, if_pos hw]
      intro q
      have hne : e.1 ∉ ks t := fun z => nd'.1 (List.mem_append_left _ z)
      have z1 : q ∈ ks (e :: t) ↔ q = e.1 ∨ q ∈ ks t := by simp [ks]
      have z2 : q ∈ ks (t ++ [(p, w)]) ↔ q ∈ ks t ∨ q = p := by simp [ks]
      show (q ∈ ks (e :: t) ∧ q ≠ e.1) ∨ q = p ↔ q ∈ ks (t ++ [(p, w)])
      rw [z1, z2]
      constructor
      · rintro (⟨h | h, n⟩ | h)
        · exact absurd h n
        · exact .inl h
        · exact .inr h
      · rintro (h | h)
        · exact .inl ⟨.inr h, fun z => hne (z ▸ h)⟩
        · exact .inr h
  · have e0 : ks (sh ++ [(p, w)]) ++ r = ks sh ++ p :: r := by simp [ks]
    refine ⟨by rw [e0]; exact nd, by rw [e0]; exact hr, hp, ?_⟩
    rw [if_neg nOut, if_pos hw]
    intro q
    show q ∈ ks sh ∨ q = p ↔ _
    simp [ks]
def CI (pl rm : Int) (A : Int → Prop) (n : Nat) (s : Shelf × Way × Evs) : Prop := (ks s.1 ++ ks s.2.1).Nodup ∧ (∀ q ∈ ks s.1 ++ ks s.2.1, 0 ≤ q ∧ q < pl) ∧ ((s.1.length : Nat) : Int) ≤ rm ∧ Ch pl A s.2.2 (· ∈ ks s.1) ∧ s.2.1.length ≤ n
def AI (pl rm : Int) (A : Int → Prop) (p : Int) (a : Shelf × Way × Evs) : Prop := (ks a.1 ++ ks a.2.1).Nodup ∧ (∀ q ∈ ks a.1 ++ ks a.2.1, 0 ≤ q ∧ q < pl) ∧ ((a.1.length : Nat) : Int) ≤ rm ∧ Ch pl A a.2.2 (· ∈ ks a.1) ∧ p ∈ ks a.1 ∧ p ∉ ks a.2.1
def SI (pl ms : Int) (sh : Shelf) (s : Way × Evs) : Prop := (ks sh ++ ks s.1).Nodup ∧ (∀ q ∈ ks sh ++ ks s.1, 0 ≤ q ∧ q < pl) ∧ ((s.1.length : Nat) : Int) ≤ ms ∧ Ch pl (· ∈ ks sh) s.2 (· ∈ ks sh)
theorem come_inv {pl rm : Int} {A : Int → Prop} (h1 : 1 ≤ rm) : ∀ (wy : Way) (sh : Shelf) (left : Way) (evs : Evs), (ks sh ++ (ks left ++ ks wy)).Nodup → (∀ q ∈ ks sh ++ (ks left ++ ks wy), 0 ≤ q ∧ q < pl) → ((sh.length : Nat) : Int) ≤ rm → Ch pl A evs (· ∈ ks sh) → CI pl rm A (left.length + wy.length) (wy.foldl (comeS rm) (sh, left, evs))
  | [], sh, left, evs, nd, hr, hl, hc => by
    have e : ks left ++ ks ([] : Way) = ks left := by simp [ks]
    rw [e] at nd hr
    exact ⟨nd, hr, hl, hc, Nat.le_refl _⟩
  | (p, t) :: wy, sh, left, evs, nd, hr, hl, hc => by
    show CI _ _ _ _ (wy.foldl (comeS rm) (comeS rm (sh, left, evs) (p, t)))
    have e1 : ks ((p, t) :: wy) = p :: ks wy := rfl
    rw [e1] at nd hr
    by_cases c : t = 0
    · have e2 : comeS rm (sh, left, evs) (p, t) = ((laidP rm sh p true).1, left, evs ++ (laidP rm sh p true).2 ++ [(("come" : Str), p)]) := if_pos c
      rw [e2]
      have pm : (ks sh ++ (ks left ++ p :: ks wy)).Perm (ks sh ++ p :: (ks left ++ ks wy)) := List.Perm.append_left _ List.perm_middle
      obtain ⟨l1, l2, l3⟩ := laid_inv (pl := pl) (w := true) (word := "come") (.inl rfl) h1 (pm.nodup_iff.mp nd) (fun q hq => hr q (pm.mem_iff.mpr hq))
      obtain ⟨i1, i2, i3, i4, i5⟩ := come_inv (A := A) h1 wy _ left (evs ++ (laidP rm sh p true).2 ++ [(("come" : Str), p)]) l1 l2 (laidP_room h1 hl) (by rw [List.append_assoc]; exact hc.app l3)
      exact ⟨i1, i2, i3, i4, Nat.le_trans i5 (by first | (simp; done) | (simp; omega))⟩
    · have e2 : comeS rm (sh, left, evs) (p, t) = (sh, left ++ [(p, t - 1)], evs) := if_neg c
      rw [e2]
      have e3 : ks (left ++ [(p, t - 1)]) ++ ks wy = ks left ++ p :: ks wy := by simp [ks]
      obtain ⟨i1, i2, i3, i4, i5⟩ := come_inv (A := A) h1 wy sh (left ++ [(p, t - 1)]) evs (by rw [e3]; exact nd) (by rw [e3]; exact hr) hl hc
      exact ⟨i1, i2, i3, i4, Nat.le_trans i5 (by first | (simp; done) | (simp; omega))⟩
theorem hit_perm {sh : Shelf} {e : Int × Bool} {p : Int} (nd : (ks sh).Nodup) (he : e ∈ sh) (ep : e.1 = p) : (ks (sh.filter (fun o => decide (o ≠ e)) ++ [(p, false)])).Perm (ks sh) := by
  have nd' : sh.Nodup := List.Pairwise.of_map (S := (· ≠ ·)) (f := (·.1)) (fun a b h e => h (congrArg _ e)) nd
  have e1 : sh.filter (fun o => decide (o ≠ e)) = sh.erase e := by
    rw [List.Nodup.erase_eq_filter nd']
    refine List.filter_congr fun x _ => ?_
    by_cases c : x = e
    · simp [c]
    · simp [c]
  rw [e1]
  have pm : sh.Perm (e :: sh.erase e) := List.perm_cons_erase he
  have z : (ks sh).Perm (ks (e :: sh.erase e)) := pm.map _
  refine List.Perm.trans ?_ z.symm
  show (ks (sh.erase e ++ [(p, false)])).Perm (e.1 :: ks (sh.erase e))
  rw [ep]
  have : ks (sh.erase e ++ [(p, false)]) = ks (sh.erase e) ++ [p] := by simp [ks]
  rw [this]
  exact List.perm_append_comm (l₁ := ks (sh.erase e)) (l₂ := [p])
theorem find_ks {sh : Shelf} {p : Int} {e : Int × Bool} (h : sh.find? (fun e => decide (e.1 = p)) = some e) : e ∈ sh ∧ e.1 = p := ⟨List.mem_of_find?_eq_some h, by have := List.find?_some h; exact of_decide_eq_true this⟩
theorem asked_inv {pl rm : Int} {sh : Shelf} {wy : Way} {p : Int} (h1 : 1 ≤ rm) (nd : (ks sh ++ ks wy).Nodup) (hr : ∀ q ∈ ks sh ++ ks wy, 0 ≤ q ∧ q < pl) (hl : ((sh.length : Nat) : Int) ≤ rm) (hp : 0 ≤ p ∧ p < pl) : AI pl rm (· ∈ ks sh) p (askedP rm sh wy p) := by
  unfold askedP
  cases e : sh.find? (fun e => decide (e.1 = p)) with
  | some x =>
    obtain ⟨hx, xp⟩ := find_ks e
    have pm := hit_perm (List.nodup_append.mp nd).1 hx xp
    have pmw : (ks (sh.filter (fun o => decide (o ≠ x)) ++ [(p, false)]) ++ ks wy).Perm (ks sh ++ ks wy) := pm.append_right _
    have hpk : p ∈ ks sh := List.mem_map.mpr ⟨x, hx, xp⟩
    refine ⟨pmw.nodup_iff.mpr nd, fun q hq => hr q (pmw.mem_iff.mp hq), ?_, ⟨hp, ?_⟩, pm.mem_iff.mpr hpk, fun z => (List.nodup_append.mp nd).2.2 p hpk p z rfl⟩
    · have : (sh.filter (fun o => decide (o ≠ x)) ++ [(p, false)]).length = sh.length := by
        have := pm.length_eq
        unfold ks at this
        rw [List.length_map, List.length_map] at this
        exact this
      show (((sh.filter (fun o => decide (o ≠ x)) ++ [(p, false)]).length : Nat) : Int) ≤ rm
      rw [this]
      exact hl
    · have n1 : ¬ isOut (if x.2 then "first" else "hit" : Str) := by split <;> decide
      have n2 : ¬ isIn (if x.2 then "first" else "hit" : Str) := by split <;> decide
      rw [if_neg n1, if_neg n2]
      exact fun q => pm.mem_iff.symm
  | none =>
    have hpn : p ∉ ks sh := fun z => by
      obtain ⟨y, hy, ey⟩ := List.mem_map.mp z
      have := List.find?_eq_none.mp e y hy
      simp at this
      exact this ey
    have hw : isIn (if (wy.filter fun e => decide (e.1 ≠ p)).length = wy.length then "miss" else "late" : Str) := by split <;> decide
    have sub : (ks (wy.filter fun e => decide (e.1 ≠ p))).Sublist (ks wy) := List.filter_sublist.map _
    have hpw : p ∉ ks (wy.filter fun e => decide (e.1 ≠ p)) := fun z => by
      obtain ⟨y, hy, ey⟩ := List.mem_map.mp z
      have := (List.mem_filter.mp hy).2
      simp at this
      exact this ey
    have ndp : (ks sh ++ p :: ks (wy.filter fun e => decide (e.1 ≠ p))).Nodup := by
      rw [List.nodup_append] at nd ⊢
      refine ⟨nd.1, List.nodup_cons.mpr ⟨hpw, nd.2.1.sublist sub⟩, fun a ha b hb => ?_⟩
      rcases List.mem_cons.mp hb with rfl | hb
      · exact fun z => hpn (z ▸ ha)
      · exact nd.2.2 a ha b (sub.subset hb)
    have hrp : ∀ q ∈ ks sh ++ p :: ks (wy.filter fun e => decide (e.1 ≠ p)), 0 ≤ q ∧ q < pl := fun q hq => by
      rcases List.mem_append.mp hq with hq | hq
      · exact hr q (List.mem_append_left _ hq)
      · rcases List.mem_cons.mp hq with rfl | hq
        · exact hp
        · exact hr q (List.mem_append_right _ (sub.subset hq))
    obtain ⟨l1, l2, l3⟩ := laid_inv (pl := pl) (w := false) hw h1 ndp hrp
    refine ⟨l1, l2, laidP_room h1 hl, l3, ?_, hpw⟩
    show p ∈ ks (laidP rm sh p false).1
    unfold laidP
    split
    · cases sh with
      | nil => exact List.mem_cons_self ..
      | cons e t =>
        show p ∈ ks (t ++ [(p, false)])
        simp [ks]
    · show p ∈ ks (sh ++ [(p, false)])
      simp [ks]
theorem started_inv {pl lt ms : Int} {sh : Shelf} : ∀ (gs : List Int) (wy : Way) (evs : Evs), (ks sh ++ ks wy).Nodup → (∀ q ∈ ks sh ++ ks wy, 0 ≤ q ∧ q < pl) → ((wy.length : Nat) : Int) ≤ ms → Ch pl (· ∈ ks sh) evs (· ∈ ks sh) → SI pl ms sh (gs.foldl (startS pl lt ms sh) (wy, evs))
  | [], wy, evs, nd, hr, hl, hc => ⟨nd, hr, hl, hc⟩
  | g :: gs, wy, evs, nd, hr, hl, hc => by
    show SI _ _ _ (gs.foldl (startS pl lt ms sh) (startS pl lt ms sh (wy, evs) g))
    by_cases c : (0 ≤ g ∧ g < pl) ∧ g ∉ sh.map (·.1) ++ wy.map (·.1) ∧ ((wy.length : Nat) : Int) < ms
    · have e : startS pl lt ms sh (wy, evs) g = (wy ++ [(g, lt)], evs ++ [(("start" : Str), g)]) := if_pos c
      rw [e]
      have ek : ks sh ++ ks (wy ++ [(g, lt)]) = ks sh ++ ks wy ++ [g] := by simp [ks]
      refine started_inv gs _ _ ?_ ?_ ?_ (hc.app ⟨c.1, ?_⟩)
      · rw [ek, List.nodup_append]
        exact ⟨nd, by simp, fun a ha b hb => by rw [List.mem_singleton.mp hb]; exact fun z => c.2.1 (z ▸ ha)⟩
      · rw [ek]
        intro q hq
        rcases List.mem_append.mp hq with hq | hq
        · exact hr q hq
        · rw [List.mem_singleton.mp hq]
          exact c.1
      · rw [List.length_append]
        show ((wy.length + 1 : Nat) : Int) ≤ ms
        have := c.2.2
        omega
      · rw [if_neg (by decide), if_neg (by decide)]
        exact fun q => Iff.rfl
    · have e : startS pl lt ms sh (wy, evs) g = (wy, evs) := if_neg c
      rw [e]
      exact started_inv gs wy evs nd hr hl hc
/-- what holds of a state -/
structure InvS (pl rm ms : Int) (sh : Shelf) (wy : Way) : Prop where
  nd : (ks sh ++ ks wy).Nodup
  rg : ∀ q ∈ ks sh ++ ks wy, 0 ≤ q ∧ q < pl
  l1 : ((sh.length : Nat) : Int) ≤ rm
  l2 : ((wy.length : Nat) : Int) ≤ ms
theorem gone_inv {pl rm lt ms : Int} {g : G} {s : RSt} {p : Int} (h1 : 1 ≤ rm) (I : InvS pl rm ms s.1 s.2.1) (hp : 0 ≤ p ∧ p < pl) :
    InvS pl rm ms (goneP pl rm lt ms g s p).1.1 (goneP pl rm lt ms g s p).1.2.1 ∧ Ch pl (· ∈ ks s.1) (goneP pl rm lt ms g s p).2 (· ∈ ks (goneP pl rm lt ms g s p).1.1) ∧ p ∈ ks (goneP pl rm lt ms g s p).1.1 := by
  obtain ⟨sh, wy, kn⟩ := s
  obtain ⟨c1, c2, c3, c4, c5⟩ := come_inv (A := (· ∈ ks sh)) h1 wy sh [] [] I.nd I.rg I.l1 (fun q => Iff.rfl)
  have c5 : (wy.foldl (comeS rm) (sh, [], [])).2.1.length ≤ wy.length := by
    have : ([] : Way).length + wy.length = wy.length := by simp
    rw [this] at c5
    exact c5
  obtain ⟨a1, a2, a3, a4, a5, a6⟩ := asked_inv (p := p) h1 c1 c2 c3 hp
  have a7 := (askedP_len rm (wy.foldl (comeS rm) (sh, [], [])).1 (wy.foldl (comeS rm) (sh, [], [])).2.1 p).2.1
  have l2 := I.l2
  have l2 : ((wy.length : Nat) : Int) ≤ ms := l2
  obtain ⟨s1, s2, s3, s4⟩ := started_inv (lt := lt) (ms := ms) (stepG g kn p).2 _ [] a1 a2 (by omega) (fun q => Iff.rfl)
  exact ⟨⟨s1, s2, a3, s3⟩, (c4.app a4).app s4, a5⟩
end St

namespace St
open PySem PySem.Spec PyProof.Rows L2
abbrev s_need_setting : Stmt := topS 22
abbrev N_need_setting : List Str := ["setting", "memory", "room", "late", "most", "one"]
abbrev p_need_setting : List Str := ["setting"]
theorem sc_need_setting : FnScope N_need_setting p_need_setting (defScope s_need_setting) := ⟨rfl, rfl, rfl, by decide +kernel, rfl, by decide +kernel, by decide +kernel⟩
abbrev s_House___init__ : Stmt := inClass (topS 26) 0
abbrev N_House___init__ : List Str := ["self", "setting", "memory", "room", "late", "most"]
abbrev p_House___init__ : List Str := ["self", "setting"]
theorem sc_House___init__ : FnScope N_House___init__ p_House___init__ (defScope s_House___init__) := ⟨rfl, rfl, rfl, by decide +kernel, rfl, by decide +kernel, by decide +kernel⟩
/-- the program's numbers -/
structure Cns (mg : Str → Option Value) : Prop where
  MOST_PLACES : ∃ t, mg "MOST_PLACES" = some (.int 32 t)
  MOST_NUMBER : ∃ t, mg "MOST_NUMBER" = some (.int 99 t)
  MOST_ROOM : ∃ t, mg "MOST_ROOM" = some (.int 8 t)
  MOST_LATE : ∃ t, mg "MOST_LATE" = some (.int 4 t)
  MOST_WAY : ∃ t, mg "MOST_WAY" = some (.int 4 t)
  MOST_DEEDS : ∃ t, mg "MOST_DEEDS" = some (.int 100 t)
/-- a class with its __init__ -/
structure ClassD (K : PySem.W.Frag) (mg : Str → Option Value) (x : Str) (C fI : Addr) : Prop where
  g : mg x = some (.ref C)
  M : Mk K C fI
  cl : Cls K C
structure Mf (K : PySem.W.Frag) (C : Addr) (x q : Str) (st : Stmt) (ps : List Str) (f : Addr) (fd : FuncData) : Prop where
  F : Fun K x q st f fd
  b : Binds K fd ps []
  m : Meth K C x f
/-- a setting: memory, room, late, most -/
structure Stg where
  mem : List Int
  rm : Int
  lt : Int
  ms : Int
structure Stg.Good (s : Stg) : Prop where
  m1 : 1 ≤ s.mem.length
  m2 : s.mem.length ≤ 32
  m3 : ∀ x ∈ s.mem, 0 ≤ x ∧ x ≤ 99
  r1 : 1 ≤ s.rm
  r2 : s.rm ≤ 8
  l1 : 0 ≤ s.lt
  l2 : s.lt ≤ 4
  w1 : 1 ≤ s.ms
  w2 : s.ms ≤ 4
def IsSet (K : PySem.W.Frag) (H : Hp) (a : Addr) (s : Stg) : Prop := ∃ m, SqT K H a [.ref m, .int s.rm, .int s.lt, .int s.ms] ∧ SqT K H m (s.mem.map V.int)
theorem IsSet.imm {K : PySem.W.Frag} {H H' : Hp} {a : Addr} {s : Stg} (h : IsSet K H a s) (e : Imm H H') : IsSet K H' a s := by
  obtain ⟨m, h1, h2⟩ := h
  exact ⟨m, e.t h1, e.t h2⟩
/-- a deed: read, or write what -/
abbrev Deed := Int × Option Int
def IsDeed (K : PySem.W.Frag) (H : Hp) (a : Addr) : Deed → Prop
  | (p, none) => SqT K H a [.str "read", .int p]
  | (p, some v) => SqT K H a [.str "write", .int p, .int v]
theorem IsDeed.imm {K : PySem.W.Frag} {H H' : Hp} {a : Addr} : ∀ {d : Deed}, IsDeed K H a d → Imm H H' → IsDeed K H' a d
  | (_, none), h, e => Imm.t e h
  | (_, some _), h, e => Imm.t e h
def Deed.Good (pl : Int) : Deed → Prop
  | (p, none) => 0 ≤ p ∧ p < pl
  | (p, some v) => (0 ≤ p ∧ p < pl) ∧ 0 ≤ v ∧ v ≤ 99
def PrD (K : PySem.W.Frag) (H : Hp) (as : List Addr) (ds : List Deed) : Prop := Paired (fun (p : Addr) (d : Deed) => IsDeed K H p d) as ds
theorem PrD.imm {K : PySem.W.Frag} {H H' : Hp} {as : List Addr} {ds : List Deed} (h : PrD K H as ds) (e : Imm H H') : PrD K H' as ds := Paired.mapP h fun _ _ z => z.imm e
section
variable {P : Program} {w : World} {K : PySem.W.Frag} {mg : Str → Option Value} {base : Heap} {f f1 f2 f3 f4 C dS dM : Addr} {fd fd1 fd2 fd3 fd4 : FuncData}
def spNeedSet (K : PySem.W.Frag) : Sp := fun vs H Q _ => ∃ (a : Addr) (s : Stg), vs = [.ref a] ∧ IsSet K H a s ∧ s.Good ∧ ∀ H', Same H H' → Q .non H'
theorem ok_need_setting (T : Nms mg) (Cn : Cns mg) (F : Fun K "need_setting" "need_setting" s_need_setting f fd) : FnOk P w K mg base CX0 1 f fd p_need_setting (spNeedSet K) := by
  refine F.ok sc_need_setting (fun vs H Q E h => ?_) (fun cdv A outer s H vs Q E hr h => ?_)
  · obtain ⟨a, s, rfl, _⟩ := h
    rfl
  obtain ⟨a, s, rfl, ⟨m, h1, h2⟩, g, q⟩ := h
  refine ⟨_, (pss_cons (ps_asg (pv 0) (pg_tup rfl (pgs_cons (pg_name (i := 1) sc_need_setting.nd rfl (Or.inl rfl)) (pgs_cons (pg_name (i := 2) sc_need_setting.nd rfl (Or.inl rfl)) (pgs_cons (pg_name (i := 3) sc_need_setting.nd rfl (Or.inl rfl)) (pgs_cons (pg_name (i := 4) sc_need_setting.nd rfl (Or.inl rfl)) pgs_nil))))))
  (pss_cons (ps_if (PW.pt (pw_or (pt_not (pt_chain op_le op_le pe_int (pe_callB call_len_seq (by rfl) T.n_len (by decide +kernel) (pa_cons (pv 1) pa_nil)) (pe_gint (by rfl) Cn.MOST_PLACES))) (pw_or1 (pt_cmpR (op_neD hr.units) (pe_lc (own := [("one", 5)]) (g := gName 5) rfl sc_need_setting.nd (pi_tup (pv 1)) (blkOk_by (own := [("one", 5)]) (N := N_need_setting) (sc := defScope s_need_setting) (by decide +kernel)) (fun _ _ _ _ _ => pg_name (i := 5) sc_need_setting.nd rfl (Or.inl rfl)) (fun _ _ _ _ _ => pts_one (pt_not (pt_chain op_le op_le pe_int (pv 5) (pe_gint (by rfl) Cn.MOST_NUMBER)))) (fun _ _ _ _ _ => (pv 5))) (pe_lst pa_nil) (nomark _)))))
    (pss_one (ps_never))
    (pss_nil))
  (pss_cons (ps_if (pt_not (pt_chain op_le op_le pe_int (pv 2) (pe_gint (by rfl) Cn.MOST_ROOM)))
    (pss_one (ps_never))
    (pss_nil))
  (pss_cons (ps_if (pt_not (pt_chain op_le op_le pe_int (pv 3) (pe_gint (by rfl) Cn.MOST_LATE)))
    (pss_one (ps_never))
    (pss_nil))
  (pss_one (ps_if (pt_not (pt_chain op_le op_le pe_int (pv 4) (pe_gint (by rfl) Cn.MOST_WAY)))
    (pss_one (ps_never))
    (pss_nil))))))), ?_⟩
  have lm : (s.mem.map V.int).length = s.mem.length := List.length_map _
  have g1 := g.m1
  have g2 := g.m2
  refine ⟨_, rfl, a, _, rfl, h1, rfl, _, _, rfl, _, _, rfl, _, _, rfl, _, _, rfl, rfl, ?_⟩
  and_intros
  refine iteB (decide_eq_true (by rw [lm]; omega)) ?_
  refine ⟨_, _, rfl, rfl, _, rfl, ?_⟩
  rw [decide_eq_true (show (((s.mem.map V.int).length : Nat) : Int) ≤ 32 by rw [lm]; omega)]
  refine iteB0 (b := !true) rfl ?_
  and_intros
  refine ⟨⟨_, h2⟩, fun D nD => ?_⟩
  refine lc_tup (xs := s.mem.map V.int) (fun i H' => Same H H' ∧ H' D = some (.lst [])) ⟨same_upd nD, upd_same⟩ (fun i H' _ h => same_t h.1 h2) (fun i y H' hi h => ?_) (fun H' h => ?_)
  · obtain ⟨x, rfl, ex, _⟩ := at_ints hi
    have gx := g.m3 x (List.mem_of_getElem? ex)
    and_intros
    refine iteB (decide_eq_true gx.1) ?_
    refine ⟨_, _, rfl, rfl, _, rfl, ?_⟩
    rw [decide_eq_true gx.2]
    exact iteB0 (b := !true) rfl h
  · and_intros
    intro L nL
    refine ⟨.list (([] : List Int).map .int), .list (([] : List Int).map .int), dp_ints (sql (same_upd nL _ _ h.2)), dp_ints (sql upd_same), lay_ints [], lay_ints [], ?_⟩
    rw [eqv_ints, decide_eq_true rfl]
    refine ⟨_, rfl, iteB0 (b := !true) rfl ?_⟩
    and_intros
    refine iteB (decide_eq_true g.r1) ?_
    refine ⟨_, _, rfl, rfl, _, rfl, ?_⟩
    rw [decide_eq_true g.r2]
    refine iteB0 (b := !true) rfl ?_
    and_intros
    refine iteB (decide_eq_true g.l1) ?_
    refine ⟨_, _, rfl, rfl, _, rfl, ?_⟩
    rw [decide_eq_true g.l2]
    refine iteB0 (b := !true) rfl ?_
    and_intros
    refine iteB (decide_eq_true g.w1) ?_
    refine ⟨_, _, rfl, rfl, _, rfl, ?_⟩
    rw [decide_eq_true g.w2]
    refine iteB0 (b := !true) rfl ?_
    exact q _ (h.1.trans (same_upd nL))
/-! ### House -/
def spHouse (K : PySem.W.Frag) (C : Addr) : Sp := fun vs H Q _ => ∃ (p a dx : Addr) (s : Stg), vs = [.ref p, .ref a] ∧ H p = some (.ins C dx []) ∧ IsSet K H a s ∧ ∀ H', SameX p H H' → IsH C H' p ((s.mem.length : Nat) : Int) s.rm s.lt s.ms → Q .non H'
theorem ok_House___init__ (T : Nms mg) (HC : HouseC K C) (F : Fun K "__init__" "House.__init__" s_House___init__ f fd) : FnOk P w K mg base CX0 1 f fd p_House___init__ (spHouse K C) := by
  refine F.ok sc_House___init__ (fun vs H Q E h => ?_) (fun cdv A outer s H vs Q E hr h => ?_)
  · obtain ⟨p, a, dx, s, rfl, _⟩ := h
    rfl
  obtain ⟨p, a, dx, s, rfl, hp, ⟨m, h1, h2⟩, q⟩ := h
  refine ⟨_, (pss_cons (ps_asg (pv 1) (pg_tup rfl (pgs_cons (pg_name (i := 2) sc_House___init__.nd rfl (Or.inl rfl)) (pgs_cons (pg_name (i := 3) sc_House___init__.nd rfl (Or.inl rfl)) (pgs_cons (pg_name (i := 4) sc_House___init__.nd rfl (Or.inl rfl)) (pgs_cons (pg_name (i := 5) sc_House___init__.nd rfl (Or.inl rfl)) pgs_nil))))))
  (pss_cons (ps_fld (pv 0) (pe_callB call_len_seq (by rfl) T.n_len (by decide +kernel) (pa_cons (pv 2) pa_nil)) rfl)
  (pss_cons (ps_fld (pv 0) (pv 3) rfl)
  (pss_cons (ps_fld (pv 0) (pv 4) rfl)
  (pss_one (ps_fld (pv 0) (pv 5) rfl)))))), ?_⟩
  refine ⟨_, rfl, a, _, rfl, h1, rfl, _, _, rfl, _, _, rfl, _, _, rfl, _, _, rfl, rfl, ?_⟩
  and_intros
  refine ⟨p, C, dx, [], rfl, hp, HC.cl, HC.places, (by show 0 < 1000; decide), ?_⟩
  refine ⟨_, rfl, _, rfl, p, C, dx, _, rfl, upd_same, HC.cl, HC.room, (by show 1 < 1000; decide), ?_⟩
  refine ⟨_, rfl, _, rfl, p, C, dx, _, rfl, upd_same, HC.cl, HC.late, (by show 2 < 1000; decide), ?_⟩
  refine ⟨_, rfl, _, rfl, p, C, dx, _, rfl, upd_same, HC.cl, HC.most, (by show 3 < 1000; decide), ?_⟩
  refine q _ (((SameX.upd.trans SameX.upd).trans SameX.upd).trans SameX.upd) ⟨dx, ?_⟩
  rw [upd_same, List.length_map]
  rfl
end
end St

namespace St
open PySem PySem.Spec PyProof.Rows L2
abbrev s_is_deed : Stmt := topS 23
abbrev N_is_deed : List Str := ["places", "deed"]
abbrev p_is_deed : List Str := ["places", "deed"]
theorem sc_is_deed : FnScope N_is_deed p_is_deed (defScope s_is_deed) := ⟨rfl, rfl, rfl, by decide +kernel, rfl, by decide +kernel, by decide +kernel⟩
abbrev s_need_row : Stmt := topS 24
abbrev N_need_row : List Str := ["places", "row", "number"]
abbrev p_need_row : List Str := ["places", "row"]
theorem sc_need_row : FnScope N_need_row p_need_row (defScope s_need_row) := ⟨rfl, rfl, rfl, by decide +kernel, rfl, by decide +kernel, by decide +kernel⟩
section
variable {P : Program} {w : World} {K : PySem.W.Frag} {mg : Str → Option Value} {base : Heap} {f f1 f2 f3 f4 C dS dM : Addr} {fd fd1 fd2 fd3 fd4 : FuncData}
def spIsDeed (K : PySem.W.Frag) : Sp := fun vs H Q _ => ∃ (a : Addr) (pl : Int) (d : Deed), vs = [.int pl, .ref a] ∧ IsDeed K H a d ∧ Deed.Good pl d ∧ Q (.bl true) H
theorem ok_is_deed (T : Nms mg) (Cn : Cns mg) (F : Fun K "is_deed" "is_deed" s_is_deed f fd) : FnOk P w K mg base CX0 1 f fd p_is_deed (spIsDeed K) := by
  refine F.ok sc_is_deed (fun vs H Q E h => ?_) (fun cdv A outer s H vs Q E hr h => ?_)
  · obtain ⟨a, pl, d, rfl, _⟩ := h
    rfl
  obtain ⟨a, pl, ⟨p, v⟩, rfl, hd, g, q⟩ := h
  refine ⟨_, (pss_cons (ps_if (PW.pt (pw_and (pt_cmpR op_eq (pe_callB call_len_seq (by rfl) T.n_len (by decide +kernel) (pa_cons (pv 1) pa_nil)) pe_int (nomark _)) (pw_and1 (pt_cmpR op_eq (pe_ix ix_tup (pv 1) pe_int (fun _ _ => rfl)) pe_str (nomark _)))))
    (pss_one (ps_ret (pe_chain op_le op_lt pe_int (pe_ix ix_tup (pv 1) pe_int (fun _ _ => rfl)) (pv 0))))
    (pss_nil))
  (pss_cons (ps_if (PW.pt (pw_or (pt_cmpR op_ne (pe_callB call_len_seq (by rfl) T.n_len (by decide +kernel) (pa_cons (pv 1) pa_nil)) pe_int (nomark _)) (pw_or1 (pt_cmpR op_ne (pe_ix ix_tup (pv 1) pe_int (fun _ _ => rfl)) pe_str (nomark _)))))
    (pss_one (ps_ret pe_bl))
    (pss_nil))
  (pss_one (ps_ret (pe_and (pe_chain op_le op_lt pe_int (pe_ix ix_tup (pv 1) pe_int (fun _ _ => rfl)) (pv 0)) (pe_one (pe_chain op_le op_le pe_int (pe_ix ix_tup (pv 1) pe_int (fun _ _ => rfl)) (pe_gint (by rfl) Cn.MOST_NUMBER)))))))), ?_⟩
  cases v with
  | none =>
    have hd : SqT K H a [.str "read", .int p] := hd
    obtain ⟨g1, g2⟩ := g
    and_intros
    refine iteB (decide_eq_true g1) ?_
    refine ⟨_, rfl, _, _, rfl, rfl, ?_⟩
    show Q (V.bl (decide (p < pl))) H
    rw [decide_eq_true g2]
    exact q
  | some v =>
    have hd : SqT K H a [.str "write", .int p, .int v] := hd
    obtain ⟨⟨g1, g2⟩, g3, g4⟩ := g
    and_intros
    refine iteB (decide_eq_true g1) ?_
    refine ⟨_, rfl, _, _, rfl, rfl, _, rfl, ?_⟩
    rw [decide_eq_true g2]
    refine iteB rfl ?_
    and_intros
    refine iteB (decide_eq_true g3) ?_
    refine ⟨_, _, rfl, rfl, ?_⟩
    show Q (V.bl (decide (v ≤ 99))) H
    rw [decide_eq_true g4]
    exact q
def spNeedRow (K : PySem.W.Frag) : Sp := fun vs H Q _ => ∃ (a : Addr) (as : List Addr) (pl : Int) (ds : List Deed), vs = [.int pl, .ref a] ∧ SqL K H a (as.map V.ref) ∧ PrD K H as ds ∧ (∀ d ∈ ds, Deed.Good pl d) ∧ ds.length ≤ 100 ∧ Q .non H
theorem ok_need_row (T : Nms mg) (Cn : Cns mg) (D_is_deed : Df K mg "is_deed" s_is_deed p_is_deed f1 fd1) (F : Fun K "need_row" "need_row" s_need_row f fd) : FnOk P w K mg base CX0 2 f fd p_need_row (spNeedRow K) := by
  have G_is_deed : FnOk P w K mg base CX0 1 f1 fd1 p_is_deed (spIsDeed K) := ok_is_deed T Cn D_is_deed.F
  refine F.ok sc_need_row (fun vs H Q E h => ?_) (fun cdv A outer s H vs Q E hr h => ?_)
  · obtain ⟨a, as, pl, ds, rfl, _⟩ := h
    rfl
  obtain ⟨a, as, pl, ds, rfl, hs, pd, hg, hl, q⟩ := h
  refine ⟨_, (pss_one (ps_for PassesOwn.never rfl (pi_range1 rfl T.n_range (pa_cons (pe_callB call_len_seq (by rfl) T.n_len (by decide +kernel) (pa_cons (pv 1) pa_nil)) pa_nil)) (pg_name (i := 2) sc_need_row.nd rfl (Or.inl rfl))
    (pss_one (ps_if (PW.pt (pw_or (pt_cmpR op_ge (pv 2) (pe_gint (by rfl) Cn.MOST_DEEDS) (nomark _)) (pw_or1 (pt_not (pt_val (pe_call G_is_deed (hr.mono (by first | decide | omega)) (by rfl) D_is_deed.m D_is_deed.F.kp D_is_deed.b .nil pass0 (pa_cons (pv 0) (pa_cons (pe_ix ix_list (pv 1) (pv 2) (fun _ _ => rfl)) pa_nil))))))))
      (pss_one (ps_never))
      (pss_nil))))), ?_⟩
  have las : as.length = ds.length := Paired.length pd
  refine ⟨_, rfl, _, _, rfl, .inl hs, _, rfl, by omega, by rw [List.length_map]; omega, ?_⟩
  rw [show ((((as.map V.ref).length : Nat) : Int)).toNat = as.length by rw [List.length_map]; exact Int.toNat_natCast _]
  refine for_range (lo := 0) (n := as.length) (fun i σ H' => ∃ y2, σ = [some (.int pl), some (.ref a), y2] ∧ H = H') ⟨none, rfl, rfl⟩ (fun i σ H' hi h => ?_) (fun σ H' h => ?_)
  · obtain ⟨y2, rfl, rfl⟩ := h
    and_intros
    refine iteB0 (decide_eq_false (by omega)) ?_
    have hi' : i < ds.length := by omega
    have ea : (as.map V.ref)[i]? = some (.ref as[i]) := by rw [List.getElem?_map, List.getElem?_eq_getElem hi]; rfl
    obtain ⟨u, d, eu, hu, _, ed⟩ := pr_at pd ea
    cases eu
    have ez : (0 + (i : Int)) = ((i : Nat) : Int) := by omega
    rw [ez]
    and_intros
    refine ⟨_, _, _, _, rfl, rfl, hs, atI_nat ea, ?_⟩
    refine ⟨as[i], pl, d, rfl, hu, hg _ (List.mem_of_getElem? ed), ?_⟩
    and_intros
    rfl
  · obtain ⟨y2, rfl, rfl⟩ := h
    exact q
end
end St

namespace St
open PySem PySem.Spec PyProof.Rows L2
abbrev s_need_all : Stmt := topS 36
abbrev N_need_all : List Str := ["setting", "guesser", "row"]
abbrev p_need_all : List Str := ["setting", "guesser", "row"]
theorem sc_need_all : FnScope N_need_all p_need_all (defScope s_need_all) := ⟨rfl, rfl, rfl, by decide +kernel, rfl, by decide +kernel, by decide +kernel⟩
section
variable {P : Program} {w : World} {K : PySem.W.Frag} {mg : Str → Option Value} {base : Heap} {f f1 f2 f3 f4 C dS dM : Addr} {fd fd1 fd2 fd3 fd4 : FuncData}
def spNeedAll (K : PySem.W.Frag) : Sp := fun vs H Q _ => ∃ (b a : Addr) (v : V) (s : Stg) (g : G) (as : List Addr) (ds : List Deed), vs = [.ref b, v, .ref a] ∧ IsSet K H b s ∧ s.Good ∧ IsG K H g v ∧ good 3 g = true ∧ SqL K H a (as.map V.ref) ∧ PrD K H as ds ∧ (∀ d ∈ ds, Deed.Good ((s.mem.length : Nat) : Int) d) ∧ ds.length ≤ 100 ∧ ∀ H', Same H H' → Q .non H'
theorem ok_need_all (T : Nms mg) (B : Tab K w mg dS dM) (Cn : Cns mg) (D_is_guesser : Df K mg "is_guesser" s_is_guesser p_is_guesser f1 fd1) (D_need_guesser : Df K mg "need_guesser" s_need_guesser p_need_guesser f2 fd2) (D_need_setting : Df K mg "need_setting" s_need_setting p_need_setting f3 fd3) {f5 f6 : Addr} {fd5 fd6 : FuncData}
    (D_is_deed : Df K mg "is_deed" s_is_deed p_is_deed f5 fd5) (D_need_row : Df K mg "need_row" s_need_row p_need_row f6 fd6) (F : Fun K "need_all" "need_all" s_need_all f fd) : FnOk P w K mg base CX0 7 f fd p_need_all (spNeedAll K) := by
  have G_need_guesser : FnOk P w K mg base CX0 6 f2 fd2 p_need_guesser (spNeedG K) := ok_need_guesser T B D_is_guesser D_need_guesser
  have G_need_setting : FnOk P w K mg base CX0 1 f3 fd3 p_need_setting (spNeedSet K) := ok_need_setting T Cn D_need_setting.F
  have G_need_row : FnOk P w K mg base CX0 2 f6 fd6 p_need_row (spNeedRow K) := ok_need_row T Cn D_is_deed D_need_row.F
  refine F.ok sc_need_all (fun vs H Q E h => ?_) (fun cdv A outer s H vs Q E hr h => ?_)
  · obtain ⟨b, a, v, s, g, as, ds, rfl, _⟩ := h
    rfl
  obtain ⟨b, a, v, s, g, as, ds, rfl, hS, gS, hG, hg, hs, pd, hgd, hl, q⟩ := h
  refine ⟨_, (pss_cons (ps_expr (pe_call G_need_setting (hr.mono (by first | decide | omega)) (by rfl) D_need_setting.m D_need_setting.F.kp D_need_setting.b .nil pass0 (pa_cons (pv 0) pa_nil)))
  (pss_cons (ps_expr (pe_call G_need_guesser (hr.mono (by first | decide | omega)) (by rfl) D_need_guesser.m D_need_guesser.F.kp D_need_guesser.b .nil pass0 (pa_cons (pv 1) pa_nil)))
  (pss_one (ps_expr (pe_call G_need_row (hr.mono (by first | decide | omega)) (by rfl) D_need_row.m D_need_row.F.kp D_need_row.b .nil pass0 (pa_cons (pe_callB call_len_seq (by rfl) T.n_len (by decide +kernel) (pa_cons (pe_ix ix_tup (pv 0) pe_int (fun _ _ => rfl)) pa_nil)) (pa_cons (pv 2) pa_nil))))))), ?_⟩
  and_intros
  refine ⟨b, s, rfl, hS, gS, fun H1 s1 => ?_⟩
  and_intros
  refine ⟨v, g, rfl, hG.same s1, hg, fun H2 s2 => ?_⟩
  obtain ⟨m, m1, m2⟩ := hS.imm (Imm.same (s1.trans s2))
  and_intros
  refine ⟨a, as, _, ds, rfl, same_l (s1.trans s2) hs, pd.imm (Imm.same (s1.trans s2)), by rw [List.length_map]; exact hgd, hl, ?_⟩
  exact q _ (s1.trans s2)
end
end St

namespace St
open PySem PySem.Spec PyProof.Rows L2
/-! ### o.f = one of several: as it stands in a tuple of targets -/
def gFld (K : PySem.W.Frag) (ta : TE) (f : Str) : TG := fun v σ H Q => ta σ H fun x H1 => ∃ a C dx fs, x = .ref a ∧ H1 a = some (.ins C dx fs) ∧ Cls K C ∧ NoAttr K C f ∧ fs.length < 1000 ∧ Q σ (upd H1 a (.ins C dx (putF f v fs)))
theorem pg_fld {X : Cx} {o : Expr} {f : Str} {pos : Pos} {ta : TE} (ho : PE X o ta)
    (ha : ∀ v, assign (.Attribute o f pos) X.env v = (do
      let ov ← holding [v] (eval o X.env)
      standAt pos.atName
      holding [v, ov] (setAttr ov f v)
      release [v, ov] []) := by intro _; rfl) : PG X (.Attribute o f pos) (gFld X.K ta f) := by
  refine ⟨fun pins s σ H v u Q I r h => ?_⟩
  rw [ha]
  refine wpAny_bind (wpAny_holding (thn (ho.run pins s σ H _ I h) fun ov s1 ⟨x, H1, I1, r1, a, C, dx, fs, ex, ea, c, n, l, q⟩ => ?_))
  subst ex
  obtain rfl : ov = Value.ref a := r1
  refine wpAny_bind (wpAny_standAt (wpAny_bind (wpAny_holding (setattr_ok I1 ea c n l r fun s3 I3 => ?_))))
  exact wpAny_release ⟨σ, _, I3, q⟩
/-! ### dicts of numbers by numbers -/
def dki (l : List (Int × Int)) : List (Key × V) := l.map fun e => (Sum.inl e.1, V.int e.2)
def putI (l : List (Int × Int)) (k v : Int) : List (Int × Int) := if (l.any fun e => decide (e.1 = k)) = true then l.map (fun e => if e.1 = k then (e.1, v) else e) else l ++ [(k, v)]
theorem any_dki (k : Int) : ∀ l : List (Int × Int), ((dki l).any fun kv => decide (kv.1 = Sum.inl k)) = l.any fun e => decide (e.1 = k)
  | [] => rfl
  | (a, b) :: r => by
    show (decide ((Sum.inl a : Key) = Sum.inl k) || (dki r).any _) = (decide (a = k) || r.any _)
    rw [any_dki k r, key_ll, Bool.beq_eq_decide_eq]
theorem put_dki (l : List (Int × Int)) (k v : Int) : putK (dki l) (Sum.inl k : Key) (V.int v) = dki (putI l k v) := by
  unfold putK putI
  rw [any_dki]
  split
  · unfold dki
    rw [List.map_map, List.map_map]
    refine List.map_congr_left fun e _ => ?_
    show (if (Sum.inl e.1 : Key) = Sum.inl k then (Sum.inl e.1, V.int v) else (Sum.inl e.1, V.int e.2)) = _
    by_cases c : e.1 = k
    · rw [if_pos (congrArg Sum.inl c)]
      show _ = (fun e : Int × Int => ((Sum.inl e.1 : Key), V.int e.2)) (if e.1 = k then (e.1, v) else e)
      rw [if_pos c]
    · rw [if_neg (fun z => c (Sum.inl.inj z))]
      show _ = (fun e : Int × Int => ((Sum.inl e.1 : Key), V.int e.2)) (if e.1 = k then (e.1, v) else e)
      rw [if_neg c]
  · unfold dki
    rw [List.map_append]
    rfl
theorem drop_dki (l : List (Int × Int)) (k : Int) : dropK (dki l) (Sum.inl k : Key) = dki (l.filter fun e => decide (e.1 ≠ k)) := by
  unfold dropK dki
  rw [List.filter_map]
  congr 1
  refine List.filter_congr fun e _ => ?_
  show decide (¬ (Sum.inl e.1 : Key) = Sum.inl k) = decide (¬ e.1 = k)
  by_cases c : e.1 = k
  · simp [c]
  · have : ¬ (Sum.inl e.1 : Key) = Sum.inl k := fun z => c (Sum.inl.inj z)
    simp [c, this]
theorem val_dki (k : Int) : ∀ l : List (Int × Int), valV (dki l) (Sum.inl k : Key) = (l.lookup k).map V.int
  | [] => rfl
  | (a, b) :: r => by
    by_cases c : a = k
    · subst c
      show valV ((Sum.inl a, V.int b) :: dki r) _ = _
      rw [valV_pos rfl]
      simp [List.lookup]
    · show valV ((Sum.inl a, V.int b) :: dki r) _ = _
      rw [valV_neg (fun z => c (Sum.inl.inj z)), val_dki k r]
      have : (k == a) = false := beq_eq_false_iff_ne.mpr (Ne.symm c)
      simp [List.lookup, this]
theorem look_ks {k : Int} : ∀ {l : List (Int × Int)}, k ∈ ks l → ∃ v, l.lookup k = some v
  | [], h => nomatch h
  | (a, b) :: r, h => by
    by_cases c : k = a
    · subst c
      exact ⟨b, by simp [List.lookup]⟩
    · have : (k == a) = false := beq_eq_false_iff_ne.mpr c
      rcases List.mem_cons.mp h with h | h
      · exact absurd h c
      · obtain ⟨v, e⟩ := look_ks h
        exact ⟨v, by simp [List.lookup, this, e]⟩
theorem ks_putI {l : List (Int × Int)} {k v q : Int} : q ∈ ks (putI l k v) ↔ q ∈ ks l ∨ q = k := by
  unfold putI
  split
  · rename_i c
    have e : ks (l.map fun e => if e.1 = k then (e.1, v) else e) = ks l := by
      unfold ks
      rw [List.map_map]
      refine List.map_congr_left fun e _ => ?_
      show (if e.1 = k then (e.1, v) else e).1 = e.1
      split <;> rfl
    rw [e]
    obtain ⟨x, hx, ex⟩ := List.any_eq_true.mp c
    constructor
    · exact .inl
    · rintro (h | h)
      · exact h
      · exact List.mem_map.mpr ⟨x, hx, (of_decide_eq_true ex).trans h.symm⟩
  · simp [ks]
theorem ks_drop {l : List (Int × Int)} {k q : Int} : q ∈ ks (l.filter fun e => decide (e.1 ≠ k)) ↔ q ∈ ks l ∧ q ≠ k := by
  unfold ks
  constructor
  · intro h
    obtain ⟨x, hx, rfl⟩ := List.mem_map.mp h
    have := List.mem_filter.mp hx
    exact ⟨List.mem_map.mpr ⟨x, this.1, rfl⟩, of_decide_eq_true this.2⟩
  · rintro ⟨h, n⟩
    obtain ⟨x, hx, rfl⟩ := List.mem_map.mp h
    exact List.mem_map.mpr ⟨x, List.mem_filter.mpr ⟨hx, decide_eq_true n⟩, rfl⟩
theorem putI_len (l : List (Int × Int)) (k v : Int) : (putI l k v).length ≤ l.length + 1 := by
  unfold putI
  split
  · rw [List.length_map]; exact Nat.le_succ _
  · rw [List.length_append]; exact Nat.le_refl _
/-! ### a run as it stands in memory -/
structure Cfg where
  pl : Int
  rm : Int
  lt : Int
  ms : Int
  g : G
structure RunS where
  cells : List Int
  lies : List (Int × Int)
  answers : List Int
  rows : List (Int × Str × Int)
  st : RSt
def evS (turn : Int) (s : RunS) (e : Str × Int) : RunS :=
  { s with rows := s.rows ++ [(turn, e.1, e.2)], lies := if isOut e.1 then s.lies.filter (fun x => decide (x.1 ≠ e.2)) else if isIn e.1 then putI s.lies e.2 (s.cells.getD e.2.toNat 0) else s.lies }
def doD (d : Deed) (s : RunS) : RunS := match d.2 with
  | none => { s with answers := s.answers ++ [(s.lies.lookup d.1).getD 0] }
  | some v => { s with lies := putI s.lies d.1 v, cells := s.cells.set d.1.toNat v }
def goC (c : Cfg) (s : RSt) (p : Int) : RSt × Evs := goneP c.pl c.rm c.lt c.ms c.g s p
def deedS (c : Cfg) (turn : Int) (d : Deed) (s : RunS) : RunS := doD d ((goC c s.st d.1).2.foldl (evS turn) { s with st := (goC c s.st d.1).1 })
def rfs (h : Addr) (v : V) (c l a r st : Addr) : List (Str × V) := [("house", .ref h), ("guesser", v), ("cells", .ref c), ("lies", .ref l), ("answers", .ref a), ("rows", .ref r), ("state", .ref st)]
structure RunC (K : PySem.W.Frag) (C : Addr) : Prop where
  house : NoAttr K C "house"
  guesser : NoAttr K C "guesser"
  cells : NoAttr K C "cells"
  lies : NoAttr K C "lies"
  answers : NoAttr K C "answers"
  rows : NoAttr K C "rows"
  state : NoAttr K C "state"
def PrR (K : PySem.W.Frag) (H : Hp) (as : List Addr) (rs : List (Int × Str × Int)) : Prop := Paired (fun (p : Addr) (e : Int × Str × Int) => SqT K H p [.int e.1, .str e.2.1, .int e.2.2]) as rs
theorem PrR.imm {K : PySem.W.Frag} {H H' : Hp} {as : List Addr} {rs : List (Int × Str × Int)} (h : PrR K H as rs) (e : Imm H H') : PrR K H' as rs := Paired.mapP h fun _ _ z => e.t z
def IsRs (K : PySem.W.Frag) (H : Hp) (a : Addr) (rs : List (Int × Str × Int)) : Prop := ∃ as : List Addr, H a = some (.lst (as.map V.ref)) ∧ PrR K H as rs
structure RunO (K : PySem.W.Frag) (CR CH : Addr) (c : Cfg) (H0 H : Hp) (r dx h : Addr) (v : V) (cA lA aA rA st : Addr) (s : RunS) : Prop where
  ob : H r = some (.ins CR dx (rfs h v cA lA aA rA st))
  s0 : Same H0 H
  n0 : H0 r = none
  nc : H0 cA = none
  nl : H0 lA = none
  na : H0 aA = none
  nr : H0 rA = none
  ca : cA ≠ aA
  cr : cA ≠ rA
  ar : aA ≠ rA
  hr : h ≠ r
  hh : IsH CH H h c.pl c.rm c.lt c.ms
  hg : IsG K H c.g v
  hc : H cA = some (.lst (s.cells.map V.int))
  hl : H lA = some (.dK (dki s.lies))
  ha : H aA = some (.lst (s.answers.map V.int))
  hrr : IsRs K H rA s.rows
  hst : IsSt K H st s.st
theorem Imm.updN {H : Hp} {x : Addr} {o u : HO} (h : H x = some o) (h1 : ∀ xs, o ≠ .tup xs) (h2 : ∀ a b, o ≠ .frz a b) : Imm H (L2.upd H x u) :=
  ⟨fun b xs e => by rw [upd_ne (fun z => by subst z; rw [h] at e; exact h1 xs (Option.some.inj e))]; exact e, fun b a t e => by rw [upd_ne (fun z => by subst z; rw [h] at e; exact h2 a t (Option.some.inj e))]; exact e⟩
section
variable {K : PySem.W.Frag} {CR CH : Addr} {c : Cfg} {H0 H : Hp} {r dx h : Addr} {v : V} {cA lA aA rA st : Addr} {s : RunS}
theorem RunO.same {H' : Hp} (o : RunO K CR CH c H0 H r dx h v cA lA aA rA st s) (e : Same H H') : RunO K CR CH c H0 H' r dx h v cA lA aA rA st s := by
  obtain ⟨as, r1, r2⟩ := o.hrr
  exact ⟨e _ _ o.ob, o.s0.trans e, o.n0, o.nc, o.nl, o.na, o.nr, o.ca, o.cr, o.ar, o.hr, o.hh.same e, o.hg.same e, e _ _ o.hc, e _ _ o.hl, e _ _ o.ha, ⟨as, e _ _ r1, r2.imm (Imm.same e)⟩, o.hst.imm (Imm.same e)⟩
theorem RunO.neq (o : RunO K CR CH c H0 H r dx h v cA lA aA rA st s) : (r ≠ cA ∧ r ≠ lA ∧ r ≠ aA ∧ r ≠ rA) ∧ (h ≠ cA ∧ h ≠ lA ∧ h ≠ aA ∧ h ≠ rA) ∧ (lA ≠ cA ∧ lA ≠ aA ∧ lA ≠ rA) := by
  obtain ⟨as, r1, r2⟩ := o.hrr
  obtain ⟨dh, hh⟩ := o.hh
  refine ⟨⟨ne_of o.ob o.hc (by intro z; cases z), ne_of o.ob o.hl (by intro z; cases z), ne_of o.ob o.ha (by intro z; cases z), ne_of o.ob r1 (by intro z; cases z)⟩, ⟨ne_of hh o.hc (by intro z; cases z), ne_of hh o.hl (by intro z; cases z), ne_of hh o.ha (by intro z; cases z), ne_of hh r1 (by intro z; cases z)⟩, ⟨ne_of o.hl o.hc (by intro z; cases z), ne_of o.hl o.ha (by intro z; cases z), ne_of o.hl r1 (by intro z; cases z)⟩⟩
/-- one more row -/
theorem RunO.row {as : List Addr} {p : Addr} {t q : Int} {x : Str} (o : RunO K CR CH c H0 H r dx h v cA lA aA rA st s) (h1 : H rA = some (.lst (as.map V.ref))) (h2 : PrR K H as s.rows) (hp : SqT K H p [.int t, .str x, .int q]) :
    RunO K CR CH c H0 (upd H rA (.lst (as.map V.ref ++ [.ref p]))) r dx h v cA lA aA rA st { s with rows := s.rows ++ [(t, x, q)] } := by
  obtain ⟨⟨n1, n2, n3, n4⟩, ⟨m1, m2, m3, m4⟩, ⟨k1, k2, k3⟩⟩ := o.neq
  have im : Imm H (upd H rA (.lst (as.map V.ref ++ [.ref p]))) := Imm.upd ⟨_, h1⟩
  obtain ⟨dh, hh⟩ := o.hh
  exact ⟨by rw [upd_ne n4]; exact o.ob, same_mut o.s0 o.nr, o.n0, o.nc, o.nl, o.na, o.nr, o.ca, o.cr, o.ar, o.hr, ⟨dh, by rw [upd_ne m4]; exact hh⟩, o.hg.imm im, by rw [upd_ne o.cr]; exact o.hc, by rw [upd_ne k3]; exact o.hl, by rw [upd_ne o.ar]; exact o.ha,
    ⟨as ++ [p], by rw [upd_same, List.map_append]; rfl, Paired.snoc (h2.imm im) (im.t hp)⟩, o.hst.imm im⟩
theorem RunO.lie (o : RunO K CR CH c H0 H r dx h v cA lA aA rA st s) (l : List (Int × Int)) : RunO K CR CH c H0 (upd H lA (.dK (dki l))) r dx h v cA lA aA rA st { s with lies := l } := by
  obtain ⟨⟨n1, n2, n3, n4⟩, ⟨m1, m2, m3, m4⟩, ⟨k1, k2, k3⟩⟩ := o.neq
  have im : Imm H (upd H lA (.dK (dki l))) := Imm.updN o.hl (by intro _ z; cases z) (by intro _ _ z; cases z)
  obtain ⟨dh, hh⟩ := o.hh
  obtain ⟨as, r1, r2⟩ := o.hrr
  exact ⟨by rw [upd_ne n2]; exact o.ob, same_mut o.s0 o.nl, o.n0, o.nc, o.nl, o.na, o.nr, o.ca, o.cr, o.ar, o.hr, ⟨dh, by rw [upd_ne m2]; exact hh⟩, o.hg.imm im, by rw [upd_ne k1.symm]; exact o.hc, upd_same, by rw [upd_ne k2.symm]; exact o.ha,
    ⟨as, by rw [upd_ne k3.symm]; exact r1, r2.imm im⟩, o.hst.imm im⟩
theorem RunO.ans (o : RunO K CR CH c H0 H r dx h v cA lA aA rA st s) (l : List Int) : RunO K CR CH c H0 (upd H aA (.lst (l.map V.int))) r dx h v cA lA aA rA st { s with answers := l } := by
  obtain ⟨⟨n1, n2, n3, n4⟩, ⟨m1, m2, m3, m4⟩, ⟨k1, k2, k3⟩⟩ := o.neq
  have im : Imm H (upd H aA (.lst (l.map V.int))) := Imm.upd ⟨_, o.ha⟩
  obtain ⟨dh, hh⟩ := o.hh
  obtain ⟨as, r1, r2⟩ := o.hrr
  exact ⟨by rw [upd_ne n3]; exact o.ob, same_mut o.s0 o.na, o.n0, o.nc, o.nl, o.na, o.nr, o.ca, o.cr, o.ar, o.hr, ⟨dh, by rw [upd_ne m3]; exact hh⟩, o.hg.imm im, by rw [upd_ne o.ca]; exact o.hc, by rw [upd_ne k2]; exact o.hl, upd_same,
    ⟨as, by rw [upd_ne o.ar.symm]; exact r1, r2.imm im⟩, o.hst.imm im⟩
theorem RunO.cell (o : RunO K CR CH c H0 H r dx h v cA lA aA rA st s) (l : List Int) : RunO K CR CH c H0 (upd H cA (.lst (l.map V.int))) r dx h v cA lA aA rA st { s with cells := l } := by
  obtain ⟨⟨n1, n2, n3, n4⟩, ⟨m1, m2, m3, m4⟩, ⟨k1, k2, k3⟩⟩ := o.neq
  have im : Imm H (upd H cA (.lst (l.map V.int))) := Imm.upd ⟨_, o.hc⟩
  obtain ⟨dh, hh⟩ := o.hh
  obtain ⟨as, r1, r2⟩ := o.hrr
  exact ⟨by rw [upd_ne n1]; exact o.ob, same_mut o.s0 o.nc, o.n0, o.nc, o.nl, o.na, o.nr, o.ca, o.cr, o.ar, o.hr, ⟨dh, by rw [upd_ne m1]; exact hh⟩, o.hg.imm im, upd_same, by rw [upd_ne k1]; exact o.hl, by rw [upd_ne o.ca.symm]; exact o.ha,
    ⟨as, by rw [upd_ne o.cr.symm]; exact r1, r2.imm im⟩, o.hst.imm im⟩
theorem RunO.stt {st' : Addr} {u : RSt} (o : RunO K CR CH c H0 H r dx h v cA lA aA rA st s) (hu : IsSt K H st' u) : RunO K CR CH c H0 (upd H r (.ins CR dx (rfs h v cA lA aA rA st'))) r dx h v cA lA aA rA st' { s with st := u } := by
  obtain ⟨⟨n1, n2, n3, n4⟩, ⟨m1, m2, m3, m4⟩, ⟨k1, k2, k3⟩⟩ := o.neq
  have im : Imm H (upd H r (.ins CR dx (rfs h v cA lA aA rA st'))) := Imm.updN o.ob (by intro _ z; cases z) (by intro _ _ z; cases z)
  obtain ⟨dh, hh⟩ := o.hh
  obtain ⟨as, r1, r2⟩ := o.hrr
  exact ⟨upd_same, same_mut o.s0 o.n0, o.n0, o.nc, o.nl, o.na, o.nr, o.ca, o.cr, o.ar, o.hr, ⟨dh, by rw [upd_ne o.hr]; exact hh⟩, o.hg.imm im, by rw [upd_ne n1.symm]; exact o.hc, by rw [upd_ne n2.symm]; exact o.hl, by rw [upd_ne n3.symm]; exact o.ha,
    ⟨as, by rw [upd_ne n4.symm]; exact r1, r2.imm im⟩, hu.imm im⟩
end
end St

namespace St
open PySem PySem.Spec PyProof.Rows L2
abbrev s_Run_do_deed : Stmt := inClass (topS 35) 1
abbrev N_Run_do_deed : List Str := ["self", "turn", "deed", "events", "word", "place"]
abbrev p_Run_do_deed : List Str := ["self", "turn", "deed"]
theorem sc_Run_do_deed : FnScope N_Run_do_deed p_Run_do_deed (defScope s_Run_do_deed) := ⟨rfl, rfl, rfl, by decide +kernel, rfl, by decide +kernel, by decide +kernel⟩
structure Cfg.Ok (c : Cfg) : Prop where
  g : good 3 c.g = true
  r1 : 1 ≤ c.rm
  r2 : c.rm ≤ 8
  m2 : c.ms ≤ 4
structure InvD (c : Cfg) (n : Nat) (s : RunS) : Prop where
  ce : ((s.cells.length : Nat) : Int) = c.pl
  ke : ∀ q, q ∈ ks s.lies ↔ q ∈ ks s.st.1
  iv : InvS c.pl c.rm c.ms s.st.1 s.st.2.1
  ft : Fit c.g s.st.2.2
  ok : okS n s.st.2.2
  ll : s.lies.length ≤ 40 * n
  rl : s.rows.length ≤ 40 * n
  al : s.answers.length ≤ n
theorem gone_len {c : Cfg} (ok : c.Ok) {n : Nat} {s : RSt} {p : Int} (l2 : ((s.2.1.length : Nat) : Int) ≤ c.ms) (ft : Fit c.g s.2.2) (ok2 : okS n s.2.2) : (goC c s p).2.length ≤ 34 := by
  obtain ⟨sh, wy, kn⟩ := s
  have l2 : ((wy.length : Nat) : Int) ≤ c.ms := l2
  have m2 := ok.m2
  have cl := comeP_len c.rm sh wy wy.length
  rw [List.take_length] at cl
  have cl3 : (comeP c.rm sh wy).2.2.length ≤ 2 * wy.length := cl.2.2
  have al := (askedP_len c.rm (comeP c.rm sh wy).1 (comeP c.rm sh wy).2.1 p).2.2
  have sl := startedP_len c.pl c.lt c.ms (askedP c.rm (comeP c.rm sh wy).1 (comeP c.rm sh wy).2.1 p).1 (askedP c.rm (comeP c.rm sh wy).1 (comeP c.rm sh wy).2.1 p).2.1 (stepG c.g kn p).2 (stepG c.g kn p).2.length
  rw [List.take_length] at sl
  have gl := stepG_len (p := p) ok.g ft ok2
  have sl2 : (startedP c.pl c.lt c.ms (askedP c.rm (comeP c.rm sh wy).1 (comeP c.rm sh wy).2.1 p).1 (askedP c.rm (comeP c.rm sh wy).1 (comeP c.rm sh wy).2.1 p).2.1 (stepG c.g kn p).2).2.length ≤ (stepG c.g kn p).2.length := sl.2
  show List.length (α := Str × Int) (_ ++ _ ++ _) ≤ 34
  rw [List.length_append, List.length_append]
  have gl' : (stepG c.g kn p).2.length ≤ 24 := gl
  dsimp only
  omega
theorem inV_2 (w a b : Str) : inV (.str w) [.str a, .str b] = decide (w = a ∨ w = b) := by
  show ((a == w) || ((b == w) || false)) = _
  by_cases c1 : w = a
  · subst c1; simp
  · by_cases c2 : w = b
    · subst c2; simp
    · have e1 : (a == w) = false := beq_eq_false_iff_ne.mpr (Ne.symm c1)
      have e2 : (b == w) = false := beq_eq_false_iff_ne.mpr (Ne.symm c2)
      simp [e1, e2, c1, c2]
theorem inV_3 (w a b c : Str) : inV (.str w) [.str a, .str b, .str c] = decide (w = a ∨ w = b ∨ w = c) := by
  show ((a == w) || ((b == w) || ((c == w) || false))) = _
  by_cases c1 : w = a
  · subst c1; simp
  · by_cases c2 : w = b
    · subst c2; simp
    · by_cases c3 : w = c
      · subst c3; simp
      · have e1 : (a == w) = false := beq_eq_false_iff_ne.mpr (Ne.symm c1)
        have e2 : (b == w) = false := beq_eq_false_iff_ne.mpr (Ne.symm c2)
        have e3 : (c == w) = false := beq_eq_false_iff_ne.mpr (Ne.symm c3)
        simp [e1, e2, e3, c1, c2, c3]
theorem isOut_notIn {w : Str} (h : isOut w) : ¬ isIn w := by
  rcases h with rfl | rfl <;> decide
/-- the lies as the events go on -/
theorem ev_step {pl : Int} {A B : Int → Prop} {turn : Int} {s : RunS} {w : Str} {p : Int} {es : Evs} (h : ∀ q, q ∈ ks s.lies ↔ A q) (hc : Ch pl A ((w, p) :: es) B) :
    (0 ≤ p ∧ p < pl) ∧ (isOut w → p ∈ ks s.lies) ∧ ∃ A', (∀ q, q ∈ ks (evS turn s (w, p)).lies ↔ A' q) ∧ Ch pl A' es B := by
  obtain ⟨hp, h2⟩ := hc
  refine ⟨hp, ?_, ?_⟩
  · intro o
    rw [if_pos o] at h2
    exact (h p).mpr h2.1
  · by_cases c1 : isOut w
    · rw [if_pos c1] at h2
      refine ⟨_, fun q => ?_, h2.2⟩
      have e : (evS turn s (w, p)).lies = s.lies.filter (fun x => decide (x.1 ≠ p)) := if_pos c1
      rw [e, ks_drop, h]
    · rw [if_neg c1] at h2
      by_cases c2 : isIn w
      · rw [if_pos c2] at h2
        refine ⟨_, fun q => ?_, h2⟩
        have e : (evS turn s (w, p)).lies = putI s.lies p (s.cells.getD p.toNat 0) := (if_neg c1).trans (if_pos c2)
        rw [e, ks_putI, h]
      · rw [if_neg c2] at h2
        refine ⟨A, fun q => ?_, h2⟩
        have e : (evS turn s (w, p)).lies = s.lies := (if_neg c1).trans (if_neg c2)
        rw [e, h]
theorem evS_len (turn : Int) (s : RunS) (e : Str × Int) : (evS turn s e).lies.length ≤ s.lies.length + 1 ∧ (evS turn s e).rows.length = s.rows.length + 1 := by
  refine ⟨?_, List.length_append⟩
  unfold evS
  show (if isOut e.1 then _ else if isIn e.1 then _ else _ : List (Int × Int)).length ≤ _
  split
  · exact Nat.le_succ_of_le (List.length_filter_le _ _)
  · split
    · exact putI_len _ _ _
    · exact Nat.le_succ _
theorem evs_run {pl : Int} {B : Int → Prop} {turn : Int} : ∀ {es : Evs} {A : Int → Prop} {s : RunS}, (∀ q, q ∈ ks s.lies ↔ A q) → Ch pl A es B →
    (∀ q, q ∈ ks (es.foldl (evS turn) s).lies ↔ B q) ∧ (es.foldl (evS turn) s).lies.length ≤ s.lies.length + es.length ∧ (es.foldl (evS turn) s).rows.length = s.rows.length + es.length ∧ (es.foldl (evS turn) s).cells = s.cells ∧ (es.foldl (evS turn) s).answers = s.answers ∧ (es.foldl (evS turn) s).st = s.st
  | [], A, s, h, hc => ⟨fun q => (h q).trans (hc q), Nat.le_refl _, rfl, rfl, rfl, rfl⟩
  | (w, p) :: es, A, s, h, hc => by
    obtain ⟨_, _, A', h', hc'⟩ := ev_step (turn := turn) h hc
    obtain ⟨i1, i2, i3, i4, i5, i6⟩ := evs_run (turn := turn) h' hc'
    have l := evS_len turn s (w, p)
    refine ⟨i1, ?_, ?_, i4, i5, i6⟩
    · show _ ≤ s.lies.length + (es.length + 1)
      have : ((w, p) :: es).foldl (evS turn) s = es.foldl (evS turn) (evS turn s (w, p)) := rfl
      rw [this]
      omega
    · show _ = s.rows.length + (es.length + 1)
      have : ((w, p) :: es).foldl (evS turn) s = es.foldl (evS turn) (evS turn s (w, p)) := rfl
      rw [this]
      omega
theorem evs_pre {pl : Int} {A B : Int → Prop} {turn : Int} {es : Evs} {s : RunS} (h : ∀ q, q ∈ ks s.lies ↔ A q) (hc : Ch pl A es B) : ∀ i, i ≤ es.length →
    ∃ A', (∀ q, q ∈ ks ((es.take i).foldl (evS turn) s).lies ↔ A' q) ∧ Ch pl A' (es.drop i) B ∧ ((es.take i).foldl (evS turn) s).lies.length ≤ s.lies.length + i ∧ ((es.take i).foldl (evS turn) s).rows.length = s.rows.length + i ∧ ((es.take i).foldl (evS turn) s).cells = s.cells
  | 0, _ => ⟨A, by rw [List.take_zero]; exact h, by rw [List.drop_zero]; exact hc, Nat.le_refl _, rfl, rfl⟩
  | i + 1, hi => by
    obtain ⟨A', h1, h2, h3, h4, h5⟩ := evs_pre h hc i (by omega)
    have hi' : i < es.length := hi
    rw [List.drop_eq_getElem_cons hi'] at h2
    have tk : es.take (i + 1) = es.take i ++ [es[i]] := by rw [List.take_add_one, List.getElem?_eq_getElem hi']; rfl
    rw [tk, List.foldl_append]
    show ∃ A' : Int → Prop, (∀ q, q ∈ ks (evS turn ((es.take i).foldl (evS turn) s) es[i]).lies ↔ A' q) ∧ _ ∧ (evS turn ((es.take i).foldl (evS turn) s) es[i]).lies.length ≤ _ ∧ (evS turn ((es.take i).foldl (evS turn) s) es[i]).rows.length = _ ∧ (evS turn ((es.take i).foldl (evS turn) s) es[i]).cells = _
    generalize (es.take i).foldl (evS turn) s = t at h1 h3 h4 h5
    generalize es[i] = e at h2
    obtain ⟨w, p⟩ := e
    obtain ⟨_, _, A2, j1, j2⟩ := ev_step (turn := turn) h1 h2
    have l := evS_len turn t (w, p)
    exact ⟨A2, j1, j2, by omega, by omega, h5⟩
theorem deed_sq {K : PySem.W.Frag} {H : Hp} {a : Addr} : ∀ {d : Deed}, IsDeed K H a d → ∃ w rest, SqT K H a (.str w :: .int d.1 :: rest) ∧ ((w = ("read" : Str) ∧ d.2 = none) ∨ (w ≠ ("read" : Str) ∧ ∃ v, d.2 = some v ∧ rest = [.int v]))
  | (p, none), h => ⟨"read", [], h, .inl ⟨rfl, rfl⟩⟩
  | (p, some v), h => ⟨"write", [.int v], h, .inr ⟨by decide, v, rfl, rfl⟩⟩
theorem Deed.pl {pl : Int} {d : Deed} (h : Deed.Good pl d) : 0 ≤ d.1 ∧ d.1 < pl := by
  obtain ⟨p, v⟩ := d
  cases v with
  | none => exact h
  | some v => exact h.1
theorem deed_inv {c : Cfg} (ok : c.Ok) {n : Nat} {s : RunS} {turn : Int} {d : Deed} (I : InvD c n s) (hd : Deed.Good c.pl d) :
    InvD c (n + 1) (deedS c turn d s) := by
  have hp := Deed.pl hd
  obtain ⟨g1, g2, g3⟩ := gone_inv (lt := c.lt) (g := c.g) (s := s.st) ok.r1 I.iv hp
  have gl := gone_len (p := d.1) ok I.iv.l2 I.ft I.ok
  have kp := stepG_keeps (p := d.1) ok.g I.ft I.ok
  obtain ⟨e1, e2, e3, e4, e5, e6⟩ := evs_run (turn := turn) (s := { s with st := (goC c s.st d.1).1 }) (es := (goC c s.st d.1).2) I.ke g2
  have ft' : Fit c.g (goC c s.st d.1).1.2.2 := kp.1
  have ok' : okS (n + 1) (goC c s.st d.1).1.2.2 := kp.2
  unfold deedS
  generalize (goC c s.st d.1).2.foldl (evS turn) { s with st := (goC c s.st d.1).1 } = t at e1 e2 e3 e4 e5 e6
  have ll := I.ll
  have rl := I.rl
  have al := I.al
  have e2 : t.lies.length ≤ s.lies.length + (goC c s.st d.1).2.length := e2
  have e3 : t.rows.length = s.rows.length + (goC c s.st d.1).2.length := e3
  have e4 : t.cells = s.cells := e4
  have e5 : t.answers = s.answers := e5
  have e6 : t.st = (goC c s.st d.1).1 := e6
  obtain ⟨p, v⟩ := d
  cases v with
  | none =>
    refine ⟨by show ((t.cells.length : Nat) : Int) = _; rw [e4]; exact I.ce, fun q => ?_, ?_, ?_, ?_, ?_, ?_, ?_⟩
    · show q ∈ ks t.lies ↔ q ∈ ks t.st.1
      rw [e6]
      exact e1 q
    · show InvS _ _ _ t.st.1 t.st.2.1
      rw [e6]
      exact g1
    · show Fit _ t.st.2.2
      rw [e6]
      exact ft'
    · show okS _ t.st.2.2
      rw [e6]
      exact ok'
    · show t.lies.length ≤ _
      omega
    · show t.rows.length ≤ _
      omega
    · show (t.answers ++ [_]).length ≤ _
      rw [List.length_append, e5]
      exact Nat.succ_le_succ al
  | some v =>
    have hpk : p ∈ ks t.lies := (e1 p).mpr g3
    refine ⟨by show (((t.cells.set _ _).length : Nat) : Int) = _; rw [List.length_set, e4]; exact I.ce, fun q => ?_, ?_, ?_, ?_, ?_, ?_, ?_⟩
    · show q ∈ ks (putI t.lies p v) ↔ q ∈ ks t.st.1
      rw [ks_putI, e6]
      constructor
      · rintro (h | h)
        · exact (e1 q).mp h
        · rw [h]; exact g3
      · intro h
        exact .inl ((e1 q).mpr h)
    · show InvS _ _ _ t.st.1 t.st.2.1
      rw [e6]
      exact g1
    · show Fit _ t.st.2.2
      rw [e6]
      exact ft'
    · show okS _ t.st.2.2
      rw [e6]
      exact ok'
    · show (putI t.lies p v).length ≤ _
      have := putI_len t.lies p v
      omega
    · show t.rows.length ≤ _
      omega
    · have z : t.answers.length ≤ n := by rw [e5]; exact al
      exact Nat.le_succ_of_le z
section
variable {P : Program} {w : World} {K : PySem.W.Frag} {mg : Str → Option Value} {base : Heap} {f fI fN f1 f2 f3 f4 f5 f6 f7 f8 C CR : Addr} {fd fd1 fd2 fd3 fd4 fd5 fd6 fd7 fd8 : FuncData}
def spDo (K : PySem.W.Frag) (CR C : Addr) : Sp := fun vs H Q _ => ∃ (r da dx h : Addr) (v : V) (cA lA aA rA st : Addr) (turn : Int) (c : Cfg) (H0 : Hp) (s : RunS) (d : Deed) (n : Nat), vs = [.ref r, .int turn, .ref da] ∧ RunO K CR C c H0 H r dx h v cA lA aA rA st s ∧ IsDeed K H da d ∧ Deed.Good c.pl d ∧ c.Ok ∧ InvD c n s ∧ n ≤ 100 ∧
  ∀ st' H', Imm H H' → RunO K CR C c H0 H' r dx h v cA lA aA rA st' (deedS c turn d s) → Q .non H'
theorem ok_Run_do_deed (T : Nms mg) (HC : HouseC K C) (KC_Run : ClassD K mg "Run" CR fI) (RC : RunC K CR) (D_laid : Df K mg "laid" s_laid p_laid f1 fd1) (D_come : Df K mg "come" s_come p_come f2 fd2) (D_asked : Df K mg "asked" s_asked p_asked f3 fd3) (D_started : Df K mg "started" s_started p_started f4 fd4)
    (D_strided : Df K mg "strided" s_strided p_strided f5 fd5) (D_paired : Df K mg "paired" s_paired p_paired f6 fd6) (D_stepped : Df K mg "stepped" s_stepped p_stepped f7 fd7) (D_gone_on : Df K mg "gone_on" s_gone_on p_gone_on f8 fd8)
    (F : Fun K "do_deed" "Run.do_deed" s_Run_do_deed f fd) : FnOk P w K mg base CX0 7 f fd p_Run_do_deed (spDo K CR C) := by
  have G_gone_on : FnOk P w K mg base CX0 6 f8 fd8 p_gone_on (spGone K C) := ok_gone_on T HC D_laid D_come D_asked D_started D_strided D_paired D_stepped D_gone_on.F
  refine F.ok sc_Run_do_deed (fun vs H Q E h => ?_) (fun cdv A outer s H vs Q E hr h => ?_)
  · obtain ⟨r, da, dx, h, v, cA, lA, aA, rA, st, turn, c, H0, s, d, n, rfl, _⟩ := h
    rfl
  obtain ⟨r, da, dx, h, v, cA, lA, aA, rA, st, turn, c, H0, s, d, n, rfl, o, hd, gd, ok, I, hn, q⟩ := h
  refine ⟨_, (pss_cons (ps_asg (pe_call G_gone_on (hr.mono (by first | decide | omega)) (by rfl) D_gone_on.m D_gone_on.F.kp D_gone_on.b .nil pass0 (pa_cons (pe_fld (pv 0) rfl) (pa_cons (pe_fld (pv 0) rfl) (pa_cons (pe_fld (pv 0) rfl) (pa_cons (pe_ix ix_tup (pv 2) pe_int (fun _ _ => rfl)) pa_nil))))) (pg_tup rfl (pgs_cons (pg_fld (pv 0)) (pgs_cons (pg_name (i := 3) sc_Run_do_deed.nd rfl (Or.inl rfl)) pgs_nil))))
  (pss_cons (ps_for PassesOwn.never rfl (pi_list (pv 3)) (pg_tup rfl (pgs_cons (pg_name (i := 4) sc_Run_do_deed.nd rfl (Or.inl rfl)) (pgs_cons (pg_name (i := 5) sc_Run_do_deed.nd rfl (Or.inl rfl)) pgs_nil)))
    (pss_cons (ps_expr (pe_bm PySem.F.plainAttrs_list PySem.F.slot_list_append PySem.F.type_list_append mt_append (pe_fld (pv 0) rfl) (pa_cons (pe_tup (pa_cons (pv 1) (pa_cons (pv 4) (pa_cons (pv 5) pa_nil)))) pa_nil)))
    (pss_one (ps_if (pt_cmpR op_in_seq (pv 4) (pe_tup (pa_cons pe_str (pa_cons pe_str pa_nil))) (by with_unfolding_all rfl))
      (pss_one (ps_expr (pe_dpop1 (pe_fld (pv 0) rfl) (pv 5) ⟨rfl, rfl, rfl, rfl⟩)))
      (pss_one (ps_if (pt_cmpR op_in_seq (pv 4) (pe_tup (pa_cons pe_str (pa_cons pe_str (pa_cons pe_str pa_nil)))) (by with_unfolding_all rfl))
        (pss_one (ps_dput (hu_of hr) (pe_fld (pv 0) rfl) (pv 5) (pe_ix ix_list (pe_fld (pv 0) rfl) (pv 5) (fun _ _ => rfl)) rfl))
        (pss_nil)))))))
  (pss_one (ps_if (pt_cmpR op_eq (pe_ix ix_tup (pv 2) pe_int (fun _ _ => rfl)) pe_str (nomark _))
    (pss_one (ps_expr (pe_bm PySem.F.plainAttrs_list PySem.F.slot_list_append PySem.F.type_list_append mt_append (pe_fld (pv 0) rfl) (pa_cons (pe_dget (hu_of hr) (pe_fld (pv 0) rfl) (pe_ix ix_tup (pv 2) pe_int (fun _ _ => rfl)) (fun _ _ => rfl)) pa_nil))))
    (pss_cons (ps_dput (hu_of hr) (pe_fld (pv 0) rfl) (pe_ix ix_tup (pv 2) pe_int (fun _ _ => rfl)) (pe_ix ix_tup (pv 2) pe_int (fun _ _ => rfl)) rfl)
    (pss_one (ps_asg (pe_ix ix_tup (pv 2) pe_int (fun _ _ => rfl)) (pg_sub (pe_fld (pv 0) rfl) (pe_ix ix_tup (pv 2) pe_int (fun _ _ => rfl)) set_list)))))))), ?_⟩
  refine ⟨_, rfl, r, CR, dx, _, _, rfl, o.ob, KC_Run.cl, RC.house, rfl, ?_⟩
  refine ⟨_, rfl, r, CR, dx, _, _, rfl, o.ob, KC_Run.cl, RC.guesser, rfl, ?_⟩
  refine ⟨_, rfl, r, CR, dx, _, _, rfl, o.ob, KC_Run.cl, RC.state, rfl, ?_⟩
  obtain ⟨w, rest, hsq, hw⟩ := deed_sq hd
  and_intros
  have wl : s.st.2.1.length ≤ 100 := by
    have := I.iv.l2
    have := ok.m2
    omega
  have sl : s.st.1.length ≤ 100 := by
    have := I.iv.l1
    have := ok.r2
    omega
  refine ⟨h, st, v, c.g, c.pl, c.rm, c.lt, c.ms, d.1, s.st, n, rfl, o.hh, o.hg, ok.g, o.hst, I.ft, I.ok, by omega, ok.r1, sl, wl, fun q1 st' ev H1 s1 nev e1 i1 i2 => ?_⟩
  have o1 := o.same s1
  have hsq1 := same_t s1 hsq
  refine ⟨q1, _, rfl, sqt e1, rfl, _, _, rfl, ?_⟩
  refine ⟨_, rfl, r, CR, dx, _, rfl, o1.ob, KC_Run.cl, RC.state, (by show 7 < 1000; decide), _, _, rfl, rfl, ?_⟩
  have o2 : RunO K CR C c H0 (upd H1 r (.ins CR dx (putF "state" (V.ref st') (rfs h v cA lA aA rA st)))) r dx h v cA lA aA rA st' { s with st := (goC c s.st d.1).1 } := o1.stt i1
  have im2 : Imm H1 (upd H1 r (.ins CR dx (putF "state" (V.ref st') (rfs h v cA lA aA rA st)))) := Imm.updN o1.ob (by intro _ z; cases z) (by intro _ _ z; cases z)
  obtain ⟨eas, v1, v2⟩ := i2
  have v1' : (upd H1 r (.ins CR dx (putF "state" (V.ref st') (rfs h v cA lA aA rA st)))) ev = some (.lst (eas.map V.ref)) := by
    rw [upd_ne (ne_of_none (o.ob) nev).symm]
    exact v1
  have hsq2 := im2.t hsq1
  have v2' := v2.imm im2
  have imA : Imm H (upd H1 r (.ins CR dx (putF "state" (V.ref st') (rfs h v cA lA aA rA st)))) := (Imm.same s1).trans im2
  obtain ⟨as0, rr1, rr2⟩ := o.hrr
  have evr : ev ≠ rA := (ne_of_none rr1 nev).symm
  have evl : ev ≠ lA := (ne_of_none o.hl nev).symm
  generalize upd H1 r (.ins CR dx (putF "state" (V.ref st') (rfs h v cA lA aA rA st))) = H2 at o2 imA v1' hsq2 v2' ⊢
  clear im2 v1 v2 o1 hsq1 rr1 rr2
  have gl := gone_len (p := d.1) ok I.iv.l2 I.ft I.ok
  obtain ⟨gi1, gi2, gi3⟩ := gone_inv (lt := c.lt) (g := c.g) (s := s.st) ok.r1 I.iv (Deed.pl gd)
  have pre := evs_pre (turn := turn) (s := { s with st := (goC c s.st d.1).1 }) (es := (goC c s.st d.1).2) I.ke gi2
  have hle : eas.length = (goC c s.st d.1).2.length := Paired.length v2'
  have v2' : PrE K H2 eas (goC c s.st d.1).2 := v2'
  have q' : ∀ st' H', Imm H H' → RunO K CR C c H0 H' r dx h v cA lA aA rA st' (doD d ((goC c s.st d.1).2.foldl (evS turn) { s with st := (goC c s.st d.1).1 })) → Q .non H' := q
  have gi2' : Ch c.pl (· ∈ ks s.st.1) (goC c s.st d.1).2 (· ∈ ks (goC c s.st d.1).1.1) := gi2
  have gi3' : d.1 ∈ ks (goC c s.st d.1).1.1 := gi3
  have run := evs_run (turn := turn) (s := { s with st := (goC c s.st d.1).1 }) I.ke gi2'
  generalize (goC c s.st d.1).2 = es at pre v2' gl hle q' run gi2'
  generalize hs1 : ({ s with st := (goC c s.st d.1).1 } : RunS) = s1 at o2 pre q' run
  have ll1 : s1.lies.length ≤ 40 * n := by rw [← hs1]; exact I.ll
  have rl1 : s1.rows.length ≤ 40 * n := by rw [← hs1]; exact I.rl
  have ce1 : ((s1.cells.length : Nat) : Int) = c.pl := by rw [← hs1]; exact I.ce
  and_intros
  refine ⟨⟨_, sql v1'⟩, ?_⟩
  refine for_list (xs := eas.map V.ref) (fun i σ H' => ∃ y4 y5, σ = [some (.ref r), some (.int turn), some (.ref da), some (.ref ev), y4, y5] ∧ Imm H2 H' ∧ H' ev = some (.lst (eas.map V.ref)) ∧ RunO K CR C c H0 H' r dx h v cA lA aA rA st' ((es.take i).foldl (evS turn) s1))
    ⟨none, none, rfl, Imm.refl _, v1', o2⟩ (fun i σ H' _ h => ?_) (fun i x σ H' hi h => ?_) (fun σ H' h => ?_)
  · obtain ⟨y4, y5, rfl, im, e, _⟩ := h
    exact sql e
  · obtain ⟨y4, y5, rfl, im, he, oi⟩ := h
    obtain ⟨u, ee, rfl, hu, tk, eg⟩ := pr_at (v2'.imm im) hi
    have hi' : i < es.length := (List.getElem?_eq_some_iff.mp eg).1
    obtain ⟨A1, a1, a2, a3, a4, a5⟩ := pre i (by omega)
    have dr : es.drop i = ee :: es.drop (i + 1) := by
      rw [List.drop_eq_getElem_cons hi']
      have : es[i] = ee := by
        rw [List.getElem?_eq_getElem hi'] at eg
        exact Option.some.inj eg
      rw [this]
    rw [dr] at a2
    have ef : (es.take (i + 1)).foldl (evS turn) s1 = evS turn ((es.take i).foldl (evS turn) s1) ee := by rw [tk, List.foldl_append]; rfl
    rw [ef]
    generalize (es.take i).foldl (evS turn) s1 = si at oi a1 a3 a4 a5 ef
    obtain ⟨wd, p⟩ := ee
    have hu : SqT K H' u [.str wd, .int p] := hu
    obtain ⟨b1, b2, _⟩ := ev_step (turn := turn) a1 a2
    refine ⟨u, _, rfl, hu, rfl, _, _, rfl, _, _, rfl, rfl, ?_⟩
    refine ⟨_, rfl, r, CR, dx, _, _, rfl, oi.ob, KC_Run.cl, RC.rows, rfl, ?_⟩
    obtain ⟨as, rr1, rr2⟩ := oi.hrr
    refine ⟨.inl ⟨rfl, _, sql rr1⟩, ?_⟩
    and_intros
    intro p1 n1
    have o3 := oi.same (same_upd (o := .tup [.int turn, .str wd, .int p]) n1)
    have rr1' := same_upd (o := .tup [.int turn, .str wd, .int p]) n1 _ _ rr1
    have las : as.length = si.rows.length := Paired.length rr2
    and_intros
    refine ⟨_, _, _, rfl, rfl, rr1', by rw [List.length_map]; exact szl (by omega), ?_⟩
    have o4 := o3.row rr1' (rr2.imm (Imm.same (same_upd n1))) (t := turn) (x := wd) (q := p) (sqt upd_same)
    have im4 : Imm H2 (upd (upd H' p1 (.tup [.int turn, .str wd, .int p])) rA (.lst (as.map V.ref ++ [.ref p1]))) := (im.trans (Imm.same (same_upd n1))).trans (Imm.upd ⟨_, rr1'⟩)
    have he4 : (upd (upd H' p1 (.tup [.int turn, .str wd, .int p])) rA (.lst (as.map V.ref ++ [.ref p1]))) ev = some (.lst (eas.map V.ref)) := by
      rw [upd_ne evr]
      exact same_upd n1 _ _ he
    generalize upd (upd H' p1 (.tup [.int turn, .str wd, .int p])) rA (.lst (as.map V.ref ++ [.ref p1])) = H4 at o4 im4 he4 ⊢
    and_intros
    intro p2 n2
    have o5 := o4.same (same_upd (o := .tup [.str "leave", .str "waste"]) n2)
    have im5 := im4.trans (Imm.same (same_upd (o := .tup [.str "leave", .str "waste"]) n2))
    have he5 := same_upd (o := .tup [.str "leave", .str "waste"]) n2 _ _ he4
    have t5 : (upd H4 p2 (.tup [.str "leave", .str "waste"])) p2 = some (.tup [.str "leave", .str "waste"]) := upd_same
    generalize upd H4 p2 (.tup [.str "leave", .str "waste"]) = H5 at o5 im5 he5 t5 ⊢
    refine ⟨p2, _, rfl, .inr (sqt t5), rfl, rfl, ?_⟩
    refine ⟨_, rfl, ?_⟩
    rw [inV_2]
    by_cases co : isOut wd
    · refine iteB (decide_eq_true co) ?_
      obtain ⟨pv, pe⟩ := look_ks (b2 co)
      refine ⟨_, rfl, r, CR, dx, _, _, rfl, o5.ob, KC_Run.cl, RC.lies, rfl, lA, rfl, .inl ⟨_, .inl o5.hl⟩, _, rfl, _, Sum.inl p, _, o5.hl, rfl, by rw [val_dki]; show (si.lies.lookup p).map V.int = _; rw [pe]; rfl, ?_⟩
      rw [drop_dki]
      have eq : evS turn si (wd, p) = { cells := si.cells, lies := si.lies.filter (fun x => decide (x.1 ≠ p)), answers := si.answers, rows := si.rows ++ [(turn, wd, p)], st := si.st } := by unfold evS; rw [if_pos co]
      rw [eq]
      exact ⟨_, _, rfl, im5.trans (Imm.updN o5.hl (by intro _ z; cases z) (by intro _ _ z; cases z)), by rw [upd_ne evl]; exact he5, o5.lie _⟩
    · refine iteB0 (decide_eq_false co) ?_
      and_intros
      intro p3 n3
      have o6 := o5.same (same_upd (o := .tup [.str "come", .str "late", .str "miss"]) n3)
      have im6 := im5.trans (Imm.same (same_upd (o := .tup [.str "come", .str "late", .str "miss"]) n3))
      have he6 := same_upd (o := .tup [.str "come", .str "late", .str "miss"]) n3 _ _ he5
      have t6 : (upd H5 p3 (.tup [.str "come", .str "late", .str "miss"])) p3 = some (.tup [.str "come", .str "late", .str "miss"]) := upd_same
      generalize upd H5 p3 (.tup [.str "come", .str "late", .str "miss"]) = H6 at o6 im6 he6 t6 ⊢
      refine ⟨p3, _, rfl, .inr (sqt t6), rfl, rfl, ?_⟩
      refine ⟨_, rfl, ?_⟩
      rw [inV_3]
      by_cases ci : isIn wd
      · refine iteB (decide_eq_true ci) ?_
        have eq : evS turn si (wd, p) = { cells := si.cells, lies := putI si.lies p (si.cells.getD p.toNat 0), answers := si.answers, rows := si.rows ++ [(turn, wd, p)], st := si.st } := by unfold evS; rw [if_neg co, if_pos ci]
        rw [eq]
        have cei : ((si.cells.length : Nat) : Int) = c.pl := by rw [a5]; exact ce1
        have hat : atI (si.cells.map V.int) p = some (.int (si.cells.getD p.toNat 0)) := at_ps (i := p.toNat) (by omega) (by omega)
        refine ⟨_, rfl, r, CR, dx, _, _, rfl, o6.ob, KC_Run.cl, RC.cells, rfl, ?_⟩
        refine ⟨_, rfl, _, _, _, _, rfl, rfl, sql o6.hc, hat, ?_⟩
        refine ⟨_, rfl, r, CR, dx, _, _, rfl, o6.ob, KC_Run.cl, RC.lies, rfl, ?_⟩
        refine ⟨_, rfl, lA, _, rfl, DPut.k (k := Sum.inl p) o6.hl (by unfold dki; rw [List.length_map]; exact szl (by show si.lies.length < _; omega)), ?_⟩
        rw [put_dki]
        exact ⟨_, _, rfl, im6.trans (Imm.updN o6.hl (by intro _ z; cases z) (by intro _ _ z; cases z)), by rw [upd_ne evl]; exact he6, o6.lie _⟩
      · refine iteB0 (decide_eq_false ci) ?_
        have eq : evS turn si (wd, p) = { cells := si.cells, lies := si.lies, answers := si.answers, rows := si.rows ++ [(turn, wd, p)], st := si.st } := by unfold evS; rw [if_neg co, if_neg ci]
        rw [eq]
        exact ⟨_, _, rfl, im6, he6, o6⟩
  · obtain ⟨y4, y5, rfl, im, he, oi⟩ := h
    rw [show es.take (eas.map V.ref).length = es by rw [List.length_map, hle]; exact List.take_length] at oi
    have hsq3 := im.t hsq2
    have imZ := imA.trans im
    obtain ⟨r1, r2, r3, r4, r5, r6⟩ := run
    generalize es.foldl (evS turn) s1 = t at oi q' r1 r2 r3 r4 r5 r6
    have tk : d.1 ∈ ks t.lies := (r1 _).mpr gi3'
    obtain ⟨pv, pe⟩ := look_ks tk
    have hget : DGet H' lA (.int d.1) (some (.int pv)) := by
      have z := DGet.k (k := Sum.inl d.1) oi.hl
      rw [val_dki, pe] at z
      exact z
    have al := I.al
    have al1 : t.answers.length ≤ n := by
      rw [r5, ← hs1]
      exact al
    obtain ⟨dp, dv⟩ := d
    rcases hw with ⟨rfl, e⟩ | ⟨hw, vv, e, er⟩
    · have e : dv = none := e
      subst e
      and_intros
      refine ⟨r, CR, dx, _, _, rfl, oi.ob, KC_Run.cl, RC.answers, rfl, ?_⟩
      refine ⟨.inl ⟨rfl, _, sql oi.ha⟩, ?_⟩
      refine ⟨_, rfl, r, CR, dx, _, _, rfl, oi.ob, KC_Run.cl, RC.lies, rfl, ?_⟩
      and_intros
      refine ⟨_, _, rfl, hget, ?_⟩
      refine ⟨_, _, _, rfl, rfl, oi.ha, by rw [List.length_map]; exact szl (by omega), ?_⟩
      have oz := oi.ans (t.answers ++ [pv])
      have ed : doD (dp, none) t = { t with answers := t.answers ++ [pv] } := by
        unfold doD
        show ({ t with answers := t.answers ++ [(t.lies.lookup dp).getD 0] } : RunS) = _
        rw [show t.lies.lookup dp = some pv from pe]
        rfl
      rw [← ed, List.map_append] at oz
      exact q' st' _ (imZ.trans (Imm.upd ⟨_, oi.ha⟩)) oz
    · have e : dv = some vv := e
      subst e er
      have gd : (0 ≤ dp ∧ dp < c.pl) ∧ 0 ≤ vv ∧ vv ≤ 99 := gd
      and_intros
      refine iteB0 (decide_eq_false fun z => hw (V.str.inj z)) ?_
      and_intros
      refine ⟨r, CR, dx, _, _, rfl, oi.ob, KC_Run.cl, RC.lies, rfl, ?_⟩
      and_intros
      have tl : t.lies.length ≤ 40 * n + 34 := by omega
      refine ⟨lA, _, rfl, DPut.k (k := Sum.inl dp) oi.hl (by unfold dki; rw [List.length_map]; exact szl (by omega)), ?_⟩
      rw [put_dki]
      have oj := oi.lie (putI t.lies dp vv)
      have imj : Imm H' (upd H' lA (.dK (dki (putI t.lies dp vv)))) := Imm.updN oi.hl (by intro _ z; cases z) (by intro _ _ z; cases z)
      have hsq4 := imj.t hsq3
      generalize upd H' lA (.dK (dki (putI t.lies dp vv))) = H5 at oj imj hsq4 ⊢
      and_intros
      refine ⟨r, CR, dx, _, _, rfl, oj.ob, KC_Run.cl, RC.cells, rfl, ?_⟩
      have ct : ((t.cells.length : Nat) : Int) = c.pl := by rw [r4]; exact ce1
      and_intros
      refine ⟨_, _, _, dp.toNat, rfl, rfl, oj.hc, by unfold ixN; rw [if_pos gd.1.1, if_pos (by rw [List.length_map]; show dp < ((t.cells.length : Nat) : Int); omega)], ?_⟩
      have oz := oj.cell (t.cells.set dp.toNat vv)
      rw [List.map_set] at oz
      exact q' st' _ ((imZ.trans imj).trans (Imm.upd ⟨_, oj.hc⟩)) oz
end
end St

namespace St
open PySem PySem.Spec PyProof.Rows L2
abbrev s_Run___init__ : Stmt := inClass (topS 35) 0
abbrev N_Run___init__ : List Str := ["self", "setting", "guesser", "row", "turn"]
abbrev p_Run___init__ : List Str := ["self", "setting", "guesser", "row"]
theorem sc_Run___init__ : FnScope N_Run___init__ p_Run___init__ (defScope s_Run___init__) := ⟨rfl, rfl, rfl, by decide +kernel, rfl, by decide +kernel, by decide +kernel⟩
def cfgOf (s : Stg) (g : G) : Cfg := ⟨((s.mem.length : Nat) : Int), s.rm, s.lt, s.ms, g⟩
def run0 (s : Stg) (g : G) : RunS := ⟨s.mem, [], [], [], ([], [], first0 g)⟩
def runTo (s : Stg) (g : G) (ds : List Deed) : Nat → RunS
  | 0 => run0 s g
  | i + 1 => match ds[i]? with
    | none => runTo s g ds i
    | some d => deedS (cfgOf s g) ((i : Nat) : Int) d (runTo s g ds i)
theorem cfg_ok {s : Stg} {g : G} (hs : s.Good) (hg : good 3 g = true) : (cfgOf s g).Ok := ⟨hg, hs.r1, hs.r2, hs.w2⟩
theorem run0_inv {s : Stg} {g : G} (hs : s.Good) (hg : good 3 g = true) : InvD (cfgOf s g) 0 (run0 s g) :=
  ⟨rfl, fun _ => Iff.rfl, ⟨List.nodup_nil, fun _ h => (nomatch h), by have := hs.r1; show (0 : Int) ≤ s.rm; omega, by have := hs.w1; show (0 : Int) ≤ s.ms; omega⟩, fit_first hg, ok_first g, Nat.le_refl _, Nat.le_refl _, Nat.le_refl _⟩
theorem runTo_inv {s : Stg} {g : G} (hs : s.Good) (hg : good 3 g = true) {ds : List Deed} (hd : ∀ d ∈ ds, Deed.Good ((s.mem.length : Nat) : Int) d) : ∀ i, i ≤ ds.length → InvD (cfgOf s g) i (runTo s g ds i)
  | 0, _ => run0_inv hs hg
  | i + 1, hi => by
    have ih := runTo_inv hs hg hd i (by omega)
    unfold runTo
    rw [List.getElem?_eq_getElem (show i < ds.length by omega)]
    exact deed_inv (cfg_ok hs hg) ih (hd _ (List.getElem_mem (by omega)))
theorem stepF {Hk : Hp} {p a : Addr} {o : HO} {fs : List (Str × V)} (fs' : List (Str × V)) {C dx : Addr} (e : Hk p = some (.ins C dx fs)) (na : Hk a = none) :
    SameX p Hk (upd (upd Hk a o) p (.ins C dx fs')) ∧ (upd (upd Hk a o) p (.ins C dx fs')) p = some (.ins C dx fs') ∧ a ≠ p ∧ (upd (upd Hk a o) p (.ins C dx fs')) a = some o ∧ Imm Hk (upd (upd Hk a o) p (.ins C dx fs')) := by
  have n : a ≠ p := (ne_of_none e na).symm
  have e' := same_upd (o := o) na _ _ e
  exact ⟨(SameX.of (same_upd na)).trans SameX.upd, upd_same, n, by rw [upd_ne n, upd_same], (Imm.same (same_upd na)).trans (Imm.updN e' (by intro _ z; cases z) (by intro _ _ z; cases z))⟩
section
variable {P : Program} {w : World} {K : PySem.W.Frag} {mg : Str → Option Value} {base : Heap} {f fI fH f1 f2 f3 f4 f5 f6 f7 f8 f9 f10 f11 f12 C CR : Addr} {fd fdI fdH fd1 fd2 fd3 fd4 fd5 fd6 fd7 fd8 fd9 fd10 fd11 fd12 : FuncData}
def spRunI (K : PySem.W.Frag) (CR C : Addr) : Sp := fun vs H Q _ => ∃ (p dx sa ra : Addr) (v : V) (s : Stg) (g : G) (H0 : Hp) (as : List Addr) (ds : List Deed), vs = [.ref p, .ref sa, v, .ref ra] ∧ H p = some (.ins CR dx []) ∧ Same H0 H ∧ H0 p = none ∧ IsSet K H0 sa s ∧ s.Good ∧ IsG K H0 g v ∧ good 3 g = true ∧ SqL K H0 ra (as.map V.ref) ∧ PrD K H0 as ds ∧ (∀ d ∈ ds, Deed.Good ((s.mem.length : Nat) : Int) d) ∧ ds.length ≤ 100 ∧
  ∀ h cA lA aA rA st H', RunO K CR C (cfgOf s g) H0 H' p dx h v cA lA aA rA st (runTo s g ds ds.length) → Q .non H'
theorem ok_Run___init__ (T : Nms mg) (HC : HouseC K C) (KC_House : ClassD K mg "House" C fH) (KC_Run : ClassD K mg "Run" CR fI) (RC : RunC K CR) (D_House___init__ : Mf K C "__init__" "House.__init__" s_House___init__ p_House___init__ fH fdH)
    (D_laid : Df K mg "laid" s_laid p_laid f1 fd1) (D_come : Df K mg "come" s_come p_come f2 fd2) (D_asked : Df K mg "asked" s_asked p_asked f3 fd3) (D_started : Df K mg "started" s_started p_started f4 fd4)
    (D_strided : Df K mg "strided" s_strided p_strided f5 fd5) (D_paired : Df K mg "paired" s_paired p_paired f6 fd6) (D_stepped : Df K mg "stepped" s_stepped p_stepped f7 fd7) (D_gone_on : Df K mg "gone_on" s_gone_on p_gone_on f8 fd8)
    (D_first_state : Df K mg "first_state" s_first_state p_first_state f9 fd9) (D_begun : Df K mg "begun" s_begun p_begun f10 fd10) (D_Run_do_deed : Mf K CR "do_deed" "Run.do_deed" s_Run_do_deed p_Run_do_deed f11 fd11)
    (F : Fun K "__init__" "Run.__init__" s_Run___init__ f fd) : FnOk P w K mg base CX0 8 f fd p_Run___init__ (spRunI K CR C) := by
  have G_House___init__ : FnOk P w K mg base CX0 1 fH fdH p_House___init__ (spHouse K C) := ok_House___init__ T HC D_House___init__.F
  have G_begun : FnOk P w K mg base CX0 5 f10 fd10 p_begun (spBegun K) := ok_begun T D_first_state D_begun.F
  have G_Run_do_deed : FnOk P w K mg base CX0 7 f11 fd11 p_Run_do_deed (spDo K CR C) := ok_Run_do_deed T HC KC_Run RC D_laid D_come D_asked D_started D_strided D_paired D_stepped D_gone_on D_Run_do_deed.F
  refine F.ok sc_Run___init__ (fun vs H Q E h => ?_) (fun cdv A outer s H vs Q E hr h => ?_)
  · obtain ⟨p, dx, sa, ra, v, s, g, H0, as, ds, rfl, _⟩ := h
    rfl
  obtain ⟨p, dx, sa, ra, v, s, g, H0, as, ds, rfl, hp, s0, np, hS, gS, hG, hg, hra, pd, gd, hl, q⟩ := h
  refine ⟨_, (pss_cons (ps_fld (pv 0) (pe_make KC_House.M G_House___init__ (hr.mono (by first | decide | omega)) (by rfl) KC_House.g D_House___init__.b .nil pass0 (pa_cons (pv 1) pa_nil)) rfl)
  (pss_cons (ps_fld (pv 0) (pv 2) rfl)
  (pss_cons (ps_fld (pv 0) (pe_callTy call_list_of (by rfl) T.n_list (by decide +kernel) (pa_cons (pe_ix ix_tup (pv 1) pe_int (fun _ _ => rfl)) pa_nil)) rfl)
  (pss_cons (ps_fld (pv 0) pe_dnewK rfl)
  (pss_cons (ps_fld (pv 0) (pe_lst pa_nil) rfl)
  (pss_cons (ps_fld (pv 0) (pe_lst pa_nil) rfl)
  (pss_cons (ps_fld (pv 0) (pe_call G_begun (hr.mono (by first | decide | omega)) (by rfl) D_begun.m D_begun.F.kp D_begun.b .nil pass0 (pa_cons (pv 2) pa_nil)) rfl)
  (pss_one (ps_for PassesOwn.never rfl (pi_range1 rfl T.n_range (pa_cons (pe_callB call_len_seq (by rfl) T.n_len (by decide +kernel) (pa_cons (pv 3) pa_nil)) pa_nil)) (pg_name (i := 4) sc_Run___init__.nd rfl (Or.inl rfl))
    (pss_one (ps_expr (pe_meth (pv 0) KC_Run.cl D_Run_do_deed.m G_Run_do_deed (hr.mono (by first | decide | omega)) D_Run_do_deed.b .nil pass0 (pa_cons (pv 4) (pa_cons (pe_ix ix_list (pv 3) (pv 4) (fun _ _ => rfl)) pa_nil)))))))))))))), ?_⟩
  have hS' := hS.imm (Imm.same s0)
  have hG' := hG.imm (Imm.same s0)
  have insN : ∀ (dx : Addr) (fs : List (Str × V)), (∀ xs, HO.ins CR dx fs ≠ .tup xs) ∧ (∀ a b, HO.ins CR dx fs ≠ .frz a b) := fun dx fs => ⟨(by intro _ z; cases z), (by intro _ _ z; cases z)⟩
  and_intros
  intro x dx2 nx ndx2 nex
  have sB : Same H (upd (upd H dx2 (.own x)) x (.ins C dx2 [])) := fun b o e => by
    rw [upd_ne (ne_of_none e nx), upd_ne (ne_of_none e ndx2)]
    exact e
  refine ⟨x, sa, dx2, s, rfl, upd_same, hS'.imm (Imm.same sB), fun H1 s1 i1 => ?_⟩
  have sH1 := sameX_same sB s1 nx
  have nxp : x ≠ p := (ne_of_none hp nx).symm
  refine ⟨rfl, ?_⟩
  have hp1 := sH1 _ _ hp
  refine ⟨_, rfl, p, CR, dx, [], rfl, hp1, KC_Run.cl, RC.house, (by show 0 < 1000; decide), ?_⟩
  refine ⟨_, rfl, _, rfl, p, CR, dx, _, rfl, upd_same, KC_Run.cl, RC.guesser, (by show 1 < 1000; decide), ?_⟩
  rw [upd_upd]
  have im1 : Imm H (upd H1 p (.ins CR dx (putF "guesser" v (putF "house" (.ref x) [])))) := (Imm.same sH1).trans (Imm.updN hp1 (insN _ _).1 (insN _ _).2)
  have x1 : SameX p H (upd H1 p (.ins CR dx (putF "guesser" v (putF "house" (.ref x) [])))) := (SameX.of sH1).trans SameX.upd
  have e1 : (upd H1 p (.ins CR dx (putF "guesser" v (putF "house" (.ref x) [])))) p = some (.ins CR dx (putF "guesser" v (putF "house" (.ref x) []))) := upd_same
  have i2 : IsH C (upd H1 p (.ins CR dx (putF "guesser" v (putF "house" (.ref x) [])))) x ((s.mem.length : Nat) : Int) s.rm s.lt s.ms := by
    obtain ⟨dh, i1⟩ := i1
    exact ⟨dh, by rw [upd_ne nxp]; exact i1⟩
  generalize upd H1 p (.ins CR dx (putF "guesser" v (putF "house" (.ref x) []))) = H2 at im1 x1 e1 i2 ⊢
  clear hp1 sH1 s1 i1 sB
  obtain ⟨m, m1, m2⟩ := hS'.imm im1
  and_intros
  intro cA ncA
  have fr : ∀ {a : Addr} {Hk : Hp}, SameX p H Hk → Hk p ≠ none → Hk a = none → H0 a = none := fun {a Hk} sx hk ha => by
    cases e : H0 a with
    | none => rfl
    | some o =>
      by_cases c : a = p
      · subst c; exact absurd ha hk
      · rw [sx _ _ c (s0 _ _ e)] at ha
        cases ha
  have sn : ∀ {z : HO}, some z ≠ none := fun {z} q => by cases q
  have nc0 := fr x1 (by rw [e1]; exact sn) ncA
  have ncp : cA ≠ p := (ne_of_none e1 ncA).symm
  refine ⟨_, rfl, p, CR, dx, _, rfl, same_upd ncA _ _ e1, KC_Run.cl, RC.cells, (by show 2 < 1000; decide), ?_⟩
  obtain ⟨x2, e2, _, c2, im2⟩ := stepF (o := .lst (s.mem.map V.int)) (putF "cells" (.ref cA) (putF "guesser" v (putF "house" (.ref x) []))) e1 ncA
  have hx2 : ∀ {Hk : Hp}, SameX p H2 Hk → IsH C Hk x ((s.mem.length : Nat) : Int) s.rm s.lt s.ms := fun {Hk} sx => by
    obtain ⟨dh, i2⟩ := i2
    exact ⟨dh, sx _ _ nxp i2⟩
  generalize upd (upd H2 cA (.lst (s.mem.map V.int))) p (.ins CR dx (putF "cells" (.ref cA) (putF "guesser" v (putF "house" (.ref x) [])))) = H3 at x2 e2 c2 im2 ⊢
  -- lies
  intro lA nlA
  have nl0 := fr (x1.trans x2) (by rw [e2]; exact sn) nlA
  have nlc : lA ≠ cA := (ne_of_none c2 nlA).symm
  refine ⟨_, rfl, p, CR, dx, _, rfl, same_upd nlA _ _ e2, KC_Run.cl, RC.lies, (by show 3 < 1000; decide), ?_⟩
  obtain ⟨x3, e3, nlp, l3, im3⟩ := stepF (o := .dK []) (putF "lies" (.ref lA) (putF "cells" (.ref cA) (putF "guesser" v (putF "house" (.ref x) [])))) e2 nlA
  have c3 := x3 _ _ ncp c2
  generalize upd (upd H3 lA (.dK [])) p (.ins CR dx (putF "lies" (.ref lA) (putF "cells" (.ref cA) (putF "guesser" v (putF "house" (.ref x) []))))) = H4 at x3 e3 l3 im3 c3 ⊢
  -- answers
  and_intros
  intro aA naA
  have na0 := fr ((x1.trans x2).trans x3) (by rw [e3]; exact sn) naA
  have nac : cA ≠ aA := ne_of_none c3 naA
  refine ⟨_, rfl, p, CR, dx, _, rfl, same_upd naA _ _ e3, KC_Run.cl, RC.answers, (by show 4 < 1000; decide), ?_⟩
  obtain ⟨x4, e4, nap, a4, im4⟩ := stepF (o := .lst []) (putF "answers" (.ref aA) (putF "lies" (.ref lA) (putF "cells" (.ref cA) (putF "guesser" v (putF "house" (.ref x) []))))) e3 naA
  have c4 := x4 _ _ ncp c3
  have l4 := x4 _ _ nlp l3
  generalize upd (upd H4 aA (.lst [])) p (.ins CR dx (putF "answers" (.ref aA) (putF "lies" (.ref lA) (putF "cells" (.ref cA) (putF "guesser" v (putF "house" (.ref x) [])))))) = H5 at x4 e4 a4 im4 c4 l4 ⊢
  -- rows
  and_intros
  intro rA nrA
  have nr0 := fr (((x1.trans x2).trans x3).trans x4) (by rw [e4]; exact sn) nrA
  have nrc : cA ≠ rA := ne_of_none c4 nrA
  have nra : aA ≠ rA := ne_of_none a4 nrA
  refine ⟨_, rfl, p, CR, dx, _, rfl, same_upd nrA _ _ e4, KC_Run.cl, RC.rows, (by show 5 < 1000; decide), ?_⟩
  obtain ⟨x5, e5, nrp, r5, im5⟩ := stepF (o := .lst []) (putF "rows" (.ref rA) (putF "answers" (.ref aA) (putF "lies" (.ref lA) (putF "cells" (.ref cA) (putF "guesser" v (putF "house" (.ref x) [])))))) e4 nrA
  have c5 := x5 _ _ ncp c4
  have l5 := x5 _ _ nlp l4
  have a5 := x5 _ _ nap a4
  have x25 := ((x2.trans x3).trans x4).trans x5
  have im25 := ((im2.trans im3).trans im4).trans im5
  clear x2 x3 x4 e2 e3 e4 im2 im3 im4 c2 c3 c4 l3 l4 a4
  generalize upd (upd H5 rA (.lst [])) p (.ins CR dx (putF "rows" (.ref rA) (putF "answers" (.ref aA) (putF "lies" (.ref lA) (putF "cells" (.ref cA) (putF "guesser" v (putF "house" (.ref x) []))))))) = H6 at x25 e5 r5 im25 c5 l5 a5 ⊢
  -- state
  and_intros
  refine ⟨v, g, rfl, (hG'.imm im1).imm im25, hg, fun st H7 s7 hst => ?_⟩
  refine ⟨_, rfl, p, CR, dx, _, rfl, s7 _ _ e5, KC_Run.cl, RC.state, (by show 6 < 1000; decide), ?_⟩
  have e7 := s7 _ _ e5
  have x8 : SameX p H7 (upd H7 p (.ins CR dx (rfs x v cA lA aA rA st))) := SameX.upd
  have im8 : Imm H7 (upd H7 p (.ins CR dx (rfs x v cA lA aA rA st))) := Imm.updN e7 (by intro _ z; cases z) (by intro _ _ z; cases z)
  have x68 : SameX p H6 (upd H7 p (.ins CR dx (rfs x v cA lA aA rA st))) := (SameX.of s7).trans x8
  have o8 : RunO K CR C (cfgOf s g) H0 (upd H7 p (.ins CR dx (rfs x v cA lA aA rA st))) p dx x v cA lA aA rA st (run0 s g) :=
    ⟨upd_same, fun b o e => (x1.trans (x25.trans x68)) _ _ (fun z => by subst z; rw [np] at e; cases e) (s0 _ _ e), np, nc0, nl0, na0, nr0, nac, nrc, nra, nxp, hx2 (x25.trans x68), ((hG'.imm im1).imm im25).imm ((Imm.same s7).trans im8),
      x68 _ _ ncp c5, x68 _ _ nlp l5, x68 _ _ nap a5, ⟨[], x68 _ _ nrp r5, .nil⟩, hst.imm im8⟩
  rw [show putF "state" (V.ref st) (putF "rows" (V.ref rA) (putF "answers" (V.ref aA) (putF "lies" (V.ref lA) (putF "cells" (V.ref cA) (putF "guesser" v (putF "house" (V.ref x) [])))))) = rfs x v cA lA aA rA st from rfl]
  generalize upd H7 p (.ins CR dx (rfs x v cA lA aA rA st)) = H8 at o8 ⊢
  have las : as.length = ds.length := Paired.length pd
  have hra8 := same_l o8.s0 hra
  refine ⟨_, rfl, _, _, rfl, .inl hra8, _, rfl, by omega, by rw [List.length_map]; omega, ?_⟩
  rw [show ((((as.map V.ref).length : Nat) : Int)).toNat = ds.length by rw [List.length_map, las]; exact Int.toNat_natCast _]
  refine for_range (lo := 0) (n := ds.length) (fun i σ H' => ∃ y4 st, σ = [some (.ref p), some (.ref sa), some v, some (.ref ra), y4] ∧ RunO K CR C (cfgOf s g) H0 H' p dx x v cA lA aA rA st (runTo s g ds i)) ⟨none, st, rfl, o8⟩ (fun i σ H' hi h => ?_) (fun σ H' h => ?_)
  · obtain ⟨y4, st, rfl, oi⟩ := h
    have ea : (as.map V.ref)[i]? = some (.ref (as[i]'(by omega))) := by rw [List.getElem?_map, List.getElem?_eq_getElem (show i < as.length by omega)]; rfl
    obtain ⟨u, d, eu, hu, _, ed⟩ := pr_at pd ea
    cases eu
    have er : runTo s g ds (i + 1) = deedS (cfgOf s g) ((i : Nat) : Int) d (runTo s g ds i) := by
      show (match ds[i]? with | none => _ | some d => _) = _
      rw [ed]
    have ez : (0 + (i : Int)) = ((i : Nat) : Int) := by omega
    rw [ez, er]
    have iv := runTo_inv gS hg gd i (by omega)
    refine ⟨_, rfl, p, dx, _, rfl, oi.ob, rfl, ?_⟩
    and_intros
    refine ⟨_, _, _, _, rfl, rfl, same_l oi.s0 hra, atI_nat ea, ?_⟩
    refine ⟨p, _, dx, x, v, cA, lA, aA, rA, st, ((i : Nat) : Int), cfgOf s g, H0, runTo s g ds i, d, i, rfl, oi, hu.imm (Imm.same oi.s0), gd _ (List.mem_of_getElem? ed), cfg_ok gS hg, iv, by omega, fun st' H9 _ o9 => ?_⟩
    exact ⟨_, st', rfl, o9⟩
  · obtain ⟨y4, st, rfl, oi⟩ := h
    exact q _ _ _ _ _ _ _ oi
end
end St

namespace St
open PySem PySem.Spec PyProof.Rows L2
/-- all that a run leans on -/
structure RunCo (K : PySem.W.Frag) (mg : Str → Option Value) (C CR : Addr) where
  {fI fH f1 f2 f3 f4 f5 f6 f7 f8 f9 f10 f11 : Addr}
  {fdI fdH fd1 fd2 fd3 fd4 fd5 fd6 fd7 fd8 fd9 fd10 fd11 : FuncData}
  T : Nms mg
  HC : HouseC K C
  KC_House : ClassD K mg "House" C fH
  KC_Run : ClassD K mg "Run" CR fI
  RC : RunC K CR
  D_House___init__ : Mf K C "__init__" "House.__init__" s_House___init__ p_House___init__ fH fdH
  D_laid : Df K mg "laid" s_laid p_laid f1 fd1
  D_come : Df K mg "come" s_come p_come f2 fd2
  D_asked : Df K mg "asked" s_asked p_asked f3 fd3
  D_started : Df K mg "started" s_started p_started f4 fd4
  D_strided : Df K mg "strided" s_strided p_strided f5 fd5
  D_paired : Df K mg "paired" s_paired p_paired f6 fd6
  D_stepped : Df K mg "stepped" s_stepped p_stepped f7 fd7
  D_gone_on : Df K mg "gone_on" s_gone_on p_gone_on f8 fd8
  D_first_state : Df K mg "first_state" s_first_state p_first_state f9 fd9
  D_begun : Df K mg "begun" s_begun p_begun f10 fd10
  D_Run_do_deed : Mf K CR "do_deed" "Run.do_deed" s_Run_do_deed p_Run_do_deed f11 fd11
  D_Run___init__ : Mf K CR "__init__" "Run.__init__" s_Run___init__ p_Run___init__ fI fdI
section
variable {P : Program} {w : World} {K : PySem.W.Frag} {mg : Str → Option Value} {base : Heap} {C CR f : Addr} {fd : FuncData}
theorem RunCo.ini (S : RunCo K mg C CR) : FnOk P w K mg base CX0 8 S.fI S.fdI p_Run___init__ (spRunI K CR C) :=
  ok_Run___init__ S.T S.HC S.KC_House S.KC_Run S.RC S.D_House___init__ S.D_laid S.D_come S.D_asked S.D_started S.D_strided S.D_paired S.D_stepped S.D_gone_on S.D_first_state S.D_begun S.D_Run_do_deed S.D_Run___init__.F
end
end St

namespace St
open PySem PySem.Spec PyProof.Rows L2
/-- all that the looks at what is handed in lean on -/
structure NeedCo (K : PySem.W.Frag) (w : World) (mg : Str → Option Value) where
  {dS dM fA fB fC fD fE fF : Addr}
  {fdA fdB fdC fdD fdE fdF : FuncData}
  T : Nms mg
  B : Tab K w mg dS dM
  Cn : Cns mg
  D_is_guesser : Df K mg "is_guesser" s_is_guesser p_is_guesser fA fdA
  D_need_guesser : Df K mg "need_guesser" s_need_guesser p_need_guesser fB fdB
  D_need_setting : Df K mg "need_setting" s_need_setting p_need_setting fC fdC
  D_is_deed : Df K mg "is_deed" s_is_deed p_is_deed fD fdD
  D_need_row : Df K mg "need_row" s_need_row p_need_row fE fdE
  D_need_all : Df K mg "need_all" s_need_all p_need_all fF fdF
section
variable {P : Program} {w : World} {K : PySem.W.Frag} {mg : Str → Option Value} {base : Heap} {C CR f : Addr} {fd : FuncData}
theorem NeedCo.all (N : NeedCo K w mg) : FnOk P w K mg base CX0 7 N.fF N.fdF p_need_all (spNeedAll K) :=
  ok_need_all N.T N.B N.Cn N.D_is_guesser N.D_need_guesser N.D_need_setting N.D_is_deed N.D_need_row N.D_need_all.F
end
end St

namespace St
open PySem PySem.Spec PyProof.Rows L2
abbrev s_Run_count : Stmt := inClass (topS 35) 2
abbrev N_Run_count : List Str := ["self", "words", "row"]
abbrev p_Run_count : List Str := ["self", "words"]
theorem sc_Run_count : FnScope N_Run_count p_Run_count (defScope s_Run_count) := ⟨rfl, rfl, rfl, by decide +kernel, rfl, by decide +kernel, by decide +kernel⟩
abbrev s_Run_counts : Stmt := inClass (topS 35) 3
abbrev N_Run_counts : List Str := ["self", "three", "used"]
abbrev p_Run_counts : List Str := ["self"]
theorem sc_Run_counts : FnScope N_Run_counts p_Run_counts (defScope s_Run_counts) := ⟨rfl, rfl, rfl, by decide +kernel, rfl, by decide +kernel, by decide +kernel⟩
abbrev s_idle_in : Stmt := topS 33
abbrev N_idle_in : List Str := ["state", "one"]
abbrev p_idle_in : List Str := ["state"]
theorem sc_idle_in : FnScope N_idle_in p_idle_in (defScope s_idle_in) := ⟨rfl, rfl, rfl, by decide +kernel, rfl, by decide +kernel, by decide +kernel⟩
theorem flat_strs : ∀ l : List Str, (l.map V.str).all flatV = true
  | [] => rfl
  | _ :: r => by rw [List.map_cons, List.all_cons, flat_strs r]; rfl
theorem inV_strs (g : Str) : ∀ l : List Str, inV (.str g) (l.map V.str) = decide (g ∈ l)
  | [] => by simp [inV]
  | a :: r => by
    have ih := inV_strs g r
    show ((a == g) || inV (.str g) (r.map V.str)) = _
    rw [ih]
    by_cases c : g = a
    · subst c; simp
    · have e1 : (a == g) = false := beq_eq_false_iff_ne.mpr (Ne.symm c)
      simp [e1, c]
/-! ### what is counted -/
def cntP (ws : List Str) (rs : List (Int × Str × Int)) : Nat := (rs.filter fun e => decide (e.2.1 ∈ ws)).length
def idleN (st : RSt) : Nat := (st.1.filter fun e => e.2).length + st.2.1.length
def countsP (rs : List (Int × Str × Int)) (st : RSt) : List Int :=
  [((cntP ["hit", "first"] rs : Nat) : Int), ((cntP ["late"] rs : Nat) : Int), ((cntP ["miss"] rs : Nat) : Int), ((cntP ["start"] rs : Nat) : Int), ((cntP ["first", "late"] rs : Nat) : Int), ((cntP ["waste"] rs : Nat) : Int), ((idleN st : Nat) : Int)]
section
variable {P : Program} {w : World} {K : PySem.W.Frag} {mg : Str → Option Value} {base : Heap} {f fI f1 f2 C CR : Addr} {fd fd1 fd2 : FuncData}
def spCount (K : PySem.W.Frag) (CR C : Addr) : Sp := fun vs H Q _ => ∃ (r dx h : Addr) (v : V) (cA lA aA rA st wl : Addr) (c : Cfg) (H0 : Hp) (s : RunS) (ws : List Str), vs = [.ref r, .ref wl] ∧ RunO K CR C c H0 H r dx h v cA lA aA rA st s ∧ SqL K H wl (ws.map V.str) ∧ s.rows.length ≤ 10000 ∧
  ∀ H', Same H H' → Q (.int ((cntP ws s.rows : Nat) : Int)) H'
theorem ok_Run_count (T : Nms mg) (KC_Run : ClassD K mg "Run" CR fI) (RC : RunC K CR) (F : Fun K "count" "Run.count" s_Run_count f fd) : FnOk P w K mg base CX0 1 f fd p_Run_count (spCount K CR C) := by
  refine F.ok sc_Run_count (fun vs H Q E h => ?_) (fun cdv A outer s H vs Q E hr h => ?_)
  · obtain ⟨r, dx, h, v, cA, lA, aA, rA, st, wl, c, H0, s, ws, rfl, _⟩ := h
    rfl
  obtain ⟨r, dx, h, v, cA, lA, aA, rA, st, wl, c, H0, s, ws, rfl, o, hw, hl, q⟩ := h
  refine ⟨_, (pss_one (ps_ret (pe_callB call_len_seq (by rfl) T.n_len (by decide +kernel) (pa_cons (pe_lc (own := [("row", 2)]) (g := gName 2) rfl sc_Run_count.nd (pi_list (pe_fld (pv 0) rfl)) (blkOk_by (own := [("row", 2)]) (N := N_Run_count) (sc := defScope s_Run_count) (by decide +kernel)) (fun _ _ _ _ _ => pg_name (i := 2) sc_Run_count.nd rfl (Or.inl rfl)) (fun _ _ _ _ _ => pts_one (pt_cmpR (in_seqK (K := K)) (pe_ix (ix_tupK (K := K)) (pv 2) pe_int (fun _ _ => rfl)) (pv 1) (by with_unfolding_all rfl))) (fun _ _ _ _ _ => (pv 2))) pa_nil)))), ?_⟩
  obtain ⟨ys, y1, y2⟩ := o.hrr
  have lys : ys.length = s.rows.length := Paired.length y2
  refine ⟨_, rfl, r, CR, dx, _, _, rfl, o.ob, KC_Run.cl, RC.rows, rfl, ?_⟩
  refine ⟨rA, rfl, ⟨_, sql y1⟩, fun D nD => ?_⟩
  refine lc_list (xs := ys.map V.ref) (fun j H2 => Same H H2 ∧ ∃ cs : List Addr, H2 D = some (.lst (cs.map V.ref)) ∧ cs.length = ((s.rows.take j).filter (fun e => decide (e.2.1 ∈ ws))).length) ⟨same_upd nD, [], upd_same, rfl⟩ (fun j H2 _ h => sql (h.1 _ _ y1)) (fun j y H2 hj h => ?_) (fun H2 h => ?_)
  · obtain ⟨s3, cs, eD, pc⟩ := h
    obtain ⟨u2, oo, rfl, hu2, tk2, eg2⟩ := pr_at (y2.imm (Imm.same s3)) hj
    obtain ⟨o1, o2, o3⟩ := oo
    have hu2 : SqT K H2 u2 [.int o1, .str o2, .int o3] := hu2
    and_intros
    refine ⟨wl, _, rfl, .inl (same_l s3 hw), rfl, flat_strs _, ?_⟩
    rw [inV_strs]
    rw [tk2, filter_snoc]
    by_cases co : o2 ∈ ws
    · refine ⟨_, rfl, ?_⟩
      refine iteB (decide_eq_true co) ?_
      have lc : cs.length ≤ s.rows.length := by
        rw [pc]
        refine Nat.le_trans (List.length_filter_le _ _) ?_
        rw [List.length_take]
        exact Nat.min_le_right _ _
      refine ⟨_, rfl, _, eD, by rw [List.length_map]; exact szl (by omega), same_mut s3 nD, cs ++ [u2], by rw [upd_same, List.map_append]; rfl, ?_⟩
      rw [if_pos (by simp [co]), List.length_append, List.length_append, pc]
      rfl
    · refine ⟨_, rfl, ?_⟩
      refine iteB0 (decide_eq_false co) ?_
      rw [if_neg (by simp [co]), List.append_nil]
      exact ⟨s3, cs, eD, pc⟩
  · obtain ⟨s3, cs, eD, pc⟩ := h
    rw [show s.rows.take (ys.map V.ref).length = s.rows by rw [List.length_map, lys]; exact List.take_length] at pc
    refine ⟨_, _, rfl, .inl (sql eD), ?_⟩
    rw [List.length_map, pc]
    exact q H2 s3
def spIdle (K : PySem.W.Frag) : Sp := fun vs H Q _ => ∃ (a : Addr) (s : RSt), vs = [.ref a] ∧ IsSt K H a s ∧ s.1.length ≤ 10000 ∧ s.2.1.length ≤ 10000 ∧ ∀ H', Same H H' → Q (.int ((idleN s : Nat) : Int)) H'
theorem ok_idle_in (T : Nms mg) (F : Fun K "idle_in" "idle_in" s_idle_in f fd) : FnOk P w K mg base CX0 1 f fd p_idle_in (spIdle K) := by
  refine F.ok sc_idle_in (fun vs H Q E h => ?_) (fun cdv A outer s H vs Q E hr h => ?_)
  · obtain ⟨a, s, rfl, _⟩ := h
    rfl
  obtain ⟨a, s, rfl, ⟨a1, a2, v, h1, ⟨as, h2, h3⟩, ⟨bs, h4, h5⟩, _⟩, l1, l2, q⟩ := h
  refine ⟨_, (pss_one (ps_ret (pe_op op_add (pe_callB call_len_seq (by rfl) T.n_len (by decide +kernel) (pa_cons (pe_lc (own := [("one", 1)]) (g := gName 1) rfl sc_idle_in.nd (pi_tup (pe_ix ix_tup (pv 0) pe_int (fun _ _ => rfl))) (blkOk_by (own := [("one", 1)]) (N := N_idle_in) (sc := defScope s_idle_in) (by decide +kernel)) (fun _ _ _ _ _ => pg_name (i := 1) sc_idle_in.nd rfl (Or.inl rfl)) (fun _ _ _ _ _ => pts_one (pt_val (pe_ix (ix_tupK (K := K)) (pv 1) pe_int (fun _ _ => rfl)))) (fun _ _ _ _ _ => (pv 1))) pa_nil)) (pe_callB call_len_seq (by rfl) T.n_len (by decide +kernel) (pa_cons (pe_ix ix_tup (pv 0) pe_int (fun _ _ => rfl)) pa_nil))))), ?_⟩
  have las : as.length = s.1.length := Paired.length h3
  have lbs : bs.length = s.2.1.length := Paired.length h5
  and_intros
  refine ⟨⟨_, h2⟩, fun D nD => ?_⟩
  refine lc_tup (xs := as.map V.ref) (fun j H2 => Same H H2 ∧ ∃ cs : List Addr, H2 D = some (.lst (cs.map V.ref)) ∧ cs.length = ((s.1.take j).filter (fun e => e.2)).length) ⟨same_upd nD, [], upd_same, rfl⟩ (fun j H2 _ h => same_t h.1 h2) (fun j y H2 hj h => ?_) (fun H2 h => ?_)
  · obtain ⟨s3, cs, eD, pc⟩ := h
    obtain ⟨u2, oo, rfl, hu2, tk2, eg2⟩ := pr_at (h3.imm (Imm.same s3)) hj
    obtain ⟨o1, o2⟩ := oo
    have hu2 : SqT K H2 u2 [.int o1, .bl o2] := hu2
    and_intros
    rw [tk2, filter_snoc]
    cases o2 with
    | true =>
      refine iteB rfl ?_
      have lc : cs.length ≤ s.1.length := by
        rw [pc]
        refine Nat.le_trans (List.length_filter_le _ _) ?_
        rw [List.length_take]
        exact Nat.min_le_right _ _
      refine ⟨_, rfl, _, eD, by rw [List.length_map]; exact szl (by omega), same_mut s3 nD, cs ++ [u2], by rw [upd_same, List.map_append]; rfl, ?_⟩
      rw [if_pos rfl, List.length_append, List.length_append, pc]
      rfl
    | false =>
      refine iteB0 rfl ?_
      rw [if_neg (by simp), List.append_nil]
      exact ⟨s3, cs, eD, pc⟩
  · obtain ⟨s3, cs, eD, pc⟩ := h
    rw [show s.1.take (as.map V.ref).length = s.1 by rw [List.length_map, las]; exact List.take_length] at pc
    have h1' := same_t s3 h1
    have h4' := same_t s3 h4
    refine ⟨_, _, rfl, .inl (sql eD), ?_⟩
    and_intros
    have e : (((cs.map V.ref).length : Nat) : Int) + (((bs.map V.ref).length : Nat) : Int) = ((idleN s : Nat) : Int) := by
      rw [List.length_map, List.length_map, pc, lbs]
      unfold idleN
      omega
    show Q (.int ((((cs.map V.ref).length : Nat) : Int) + (((bs.map V.ref).length : Nat) : Int))) H2
    rw [e]
    exact q H2 s3
def spCounts (K : PySem.W.Frag) (CR C : Addr) : Sp := fun vs H Q _ => ∃ (r dx h : Addr) (v : V) (cA lA aA rA st : Addr) (c : Cfg) (H0 : Hp) (s : RunS), vs = [.ref r] ∧ RunO K CR C c H0 H r dx h v cA lA aA rA st s ∧ s.rows.length ≤ 10000 ∧ s.st.1.length ≤ 10000 ∧ s.st.2.1.length ≤ 10000 ∧
  ∀ t H', Same H H' → SqT K H' t ((countsP s.rows s.st).map V.int) → Q (.ref t) H'
theorem ok_Run_counts (T : Nms mg) (KC_Run : ClassD K mg "Run" CR fI) (RC : RunC K CR) (D_Run_count : Mf K CR "count" "Run.count" s_Run_count p_Run_count f1 fd1) (D_idle_in : Df K mg "idle_in" s_idle_in p_idle_in f2 fd2) (F : Fun K "counts" "Run.counts" s_Run_counts f fd) : FnOk P w K mg base CX0 2 f fd p_Run_counts (spCounts K CR C) := by
  have G_Run_count : FnOk P w K mg base CX0 1 f1 fd1 p_Run_count (spCount K CR C) := ok_Run_count T KC_Run RC D_Run_count.F
  have G_idle_in : FnOk P w K mg base CX0 1 f2 fd2 p_idle_in (spIdle K) := ok_idle_in T D_idle_in.F
  refine F.ok sc_Run_counts (fun vs H Q E h => ?_) (fun cdv A outer s H vs Q E hr h => ?_)
  · obtain ⟨r, dx, h, v, cA, lA, aA, rA, st, c, H0, s, rfl, _⟩ := h
    rfl
  obtain ⟨r, dx, h, v, cA, lA, aA, rA, st, c, H0, s, rfl, o, hl, l1, l2, q⟩ := h
  refine ⟨_, (pss_cons (ps_set (i := 1) sc_Run_counts.nd rfl (Or.inl rfl) (pe_tup (pa_cons (pe_meth (pv 0) KC_Run.cl D_Run_count.m G_Run_count (hr.mono (by first | decide | omega)) D_Run_count.b .nil pass0 (pa_cons (pe_lst (pa_cons pe_str (pa_cons pe_str pa_nil))) pa_nil)) (pa_cons (pe_meth (pv 0) KC_Run.cl D_Run_count.m G_Run_count (hr.mono (by first | decide | omega)) D_Run_count.b .nil pass0 (pa_cons (pe_lst (pa_cons pe_str pa_nil)) pa_nil)) (pa_cons (pe_meth (pv 0) KC_Run.cl D_Run_count.m G_Run_count (hr.mono (by first | decide | omega)) D_Run_count.b .nil pass0 (pa_cons (pe_lst (pa_cons pe_str pa_nil)) pa_nil)) pa_nil)))))
  (pss_cons (ps_set (i := 2) sc_Run_counts.nd rfl (Or.inl rfl) (pe_meth (pv 0) KC_Run.cl D_Run_count.m G_Run_count (hr.mono (by first | decide | omega)) D_Run_count.b .nil pass0 (pa_cons (pe_lst (pa_cons pe_str (pa_cons pe_str pa_nil))) pa_nil)))
  (pss_one (ps_ret (pe_op op_catA (pv 1) (pe_tup (pa_cons (pe_meth (pv 0) KC_Run.cl D_Run_count.m G_Run_count (hr.mono (by first | decide | omega)) D_Run_count.b .nil pass0 (pa_cons (pe_lst (pa_cons pe_str pa_nil)) pa_nil)) (pa_cons (pv 2) (pa_cons (pe_meth (pv 0) KC_Run.cl D_Run_count.m G_Run_count (hr.mono (by first | decide | omega)) D_Run_count.b .nil pass0 (pa_cons (pe_lst (pa_cons pe_str pa_nil)) pa_nil)) (pa_cons (pe_call G_idle_in (hr.mono (by first | decide | omega)) (by rfl) D_idle_in.m D_idle_in.F.kp D_idle_in.b .nil pass0 (pa_cons (pe_fld (pv 0) rfl) pa_nil)) pa_nil)))))))))), ?_⟩
  refine ⟨_, rfl, r, dx, _, rfl, o.ob, rfl, ?_⟩
  and_intros
  intro p1 n1
  refine ⟨r, dx, h, v, cA, lA, aA, rA, st, p1, c, H0, s, ["hit", "first"], rfl, o.same (same_upd n1), sql upd_same, hl, fun H1 s1 => ?_⟩
  have s1 := (same_upd n1).trans s1
  refine ⟨_, rfl, r, dx, _, rfl, (o.same s1).ob, rfl, ?_⟩
  and_intros
  intro p2 n2
  refine ⟨r, dx, h, v, cA, lA, aA, rA, st, p2, c, H0, s, ["late"], rfl, o.same (s1.trans (same_upd n2)), sql upd_same, hl, fun H2 s2 => ?_⟩
  have s2 := (s1.trans (same_upd n2)).trans s2
  refine ⟨_, rfl, r, dx, _, rfl, (o.same s2).ob, rfl, ?_⟩
  and_intros
  intro p3 n3
  refine ⟨r, dx, h, v, cA, lA, aA, rA, st, p3, c, H0, s, ["miss"], rfl, o.same (s2.trans (same_upd n3)), sql upd_same, hl, fun H3 s3 => ?_⟩
  have s3 := (s2.trans (same_upd n3)).trans s3
  and_intros
  intro t4 n4
  have s4 := s3.trans (same_upd (o := .tup [.int ((cntP ["hit", "first"] s.rows : Nat) : Int), .int ((cntP ["late"] s.rows : Nat) : Int), .int ((cntP ["miss"] s.rows : Nat) : Int)]) n4)
  have e4 : SqT K (upd H3 t4 (.tup [.int ((cntP ["hit", "first"] s.rows : Nat) : Int), .int ((cntP ["late"] s.rows : Nat) : Int), .int ((cntP ["miss"] s.rows : Nat) : Int)])) t4 [.int ((cntP ["hit", "first"] s.rows : Nat) : Int), .int ((cntP ["late"] s.rows : Nat) : Int), .int ((cntP ["miss"] s.rows : Nat) : Int)] := sqt upd_same
  generalize upd H3 t4 (.tup [.int ((cntP ["hit", "first"] s.rows : Nat) : Int), .int ((cntP ["late"] s.rows : Nat) : Int), .int ((cntP ["miss"] s.rows : Nat) : Int)]) = H4 at s4 e4 ⊢
  refine ⟨_, rfl, r, dx, _, rfl, (o.same s4).ob, rfl, ?_⟩
  and_intros
  intro p5 n5
  refine ⟨r, dx, h, v, cA, lA, aA, rA, st, p5, c, H0, s, ["first", "late"], rfl, o.same (s4.trans (same_upd n5)), sql upd_same, hl, fun H5 s5 => ?_⟩
  have s45 := (same_upd n5).trans s5
  have s5 := s4.trans s45
  have e5 := same_t s45 e4
  refine ⟨_, rfl, _, rfl, r, dx, _, rfl, (o.same s5).ob, rfl, ?_⟩
  and_intros
  intro p6 n6
  refine ⟨r, dx, h, v, cA, lA, aA, rA, st, p6, c, H0, s, ["start"], rfl, o.same (s5.trans (same_upd n6)), sql upd_same, hl, fun H6 s6 => ?_⟩
  have s56 := (same_upd n6).trans s6
  have s6 := s5.trans s56
  have e6 := same_t s56 e5
  and_intros
  refine ⟨r, dx, _, rfl, (o.same s6).ob, rfl, ?_⟩
  and_intros
  intro p7 n7
  refine ⟨r, dx, h, v, cA, lA, aA, rA, st, p7, c, H0, s, ["waste"], rfl, o.same (s6.trans (same_upd n7)), sql upd_same, hl, fun H7 s7 => ?_⟩
  have s67 := (same_upd n7).trans s7
  have s7 := s6.trans s67
  have e7 := same_t s67 e6
  refine ⟨_, rfl, r, CR, dx, _, _, rfl, (o.same s7).ob, KC_Run.cl, RC.state, rfl, ?_⟩
  refine ⟨st, s.st, rfl, (o.same s7).hst, l1, l2, fun H8 s8 => ?_⟩
  have e8 := same_t s8 e7
  and_intros
  intro t9 n9
  refine catA_ok (same_t (same_upd n9) e8) (sqt upd_same) (by show 3 + 4 ≤ sizeLine; decide) fun p10 H10 s10 h10 => ?_
  exact q p10 H10 (((s7.trans s8).trans (same_upd n9)).trans s10) h10
end
end St

namespace St
open PySem PySem.Spec PyProof.Rows L2
abbrev s_run : Stmt := topS 37
abbrev N_run : List Str := ["setting", "guesser", "row", "done"]
abbrev p_run : List Str := ["setting", "guesser", "row"]
theorem sc_run : FnScope N_run p_run (defScope s_run) := ⟨rfl, rfl, rfl, by decide +kernel, rfl, by decide +kernel, by decide +kernel⟩
section
variable {P : Program} {w : World} {K : PySem.W.Frag} {mg : Str → Option Value} {base : Heap} {f f1 f2 f3 C CR : Addr} {fd fd1 fd2 fd3 : FuncData}
def spRun (K : PySem.W.Frag) : Sp := fun vs H Q _ => ∃ (sa ra : Addr) (v : V) (s : Stg) (g : G) (as : List Addr) (ds : List Deed), vs = [.ref sa, v, .ref ra] ∧ IsSet K H sa s ∧ s.Good ∧ IsG K H g v ∧ good 3 g = true ∧ SqL K H ra (as.map V.ref) ∧ PrD K H as ds ∧ (∀ d ∈ ds, Deed.Good ((s.mem.length : Nat) : Int) d) ∧ ds.length ≤ 100 ∧
  ∀ t aA cT kT H', Same H H' → H aA = none → SqT K H' t [.ref aA, .ref cT, .ref kT] → H' aA = some (.lst ((runTo s g ds ds.length).answers.map V.int)) → SqT K H' cT ((runTo s g ds ds.length).cells.map V.int) → SqT K H' kT ((countsP (runTo s g ds ds.length).rows (runTo s g ds ds.length).st).map V.int) → Q (.ref t) H'
theorem ok_run (N : NeedCo K w mg) (S : RunCo K mg C CR) (D_Run_count : Mf K CR "count" "Run.count" s_Run_count p_Run_count f1 fd1) (D_Run_counts : Mf K CR "counts" "Run.counts" s_Run_counts p_Run_counts f2 fd2) (D_idle_in : Df K mg "idle_in" s_idle_in p_idle_in f3 fd3) (F : Fun K "run" "run" s_run f fd) : FnOk P w K mg base CX0 10 f fd p_run (spRun K) := by
  have T := S.T
  have KC_Run := S.KC_Run
  have RC := S.RC
  have D_need_all := N.D_need_all
  have D_Run___init__ := S.D_Run___init__
  have G_need_all : FnOk P w K mg base CX0 7 N.fF N.fdF p_need_all (spNeedAll K) := N.all
  have G_Run___init__ : FnOk P w K mg base CX0 8 S.fI S.fdI p_Run___init__ (spRunI K CR C) := S.ini
  have G_Run_counts : FnOk P w K mg base CX0 2 f2 fd2 p_Run_counts (spCounts K CR C) := ok_Run_counts T KC_Run RC D_Run_count D_idle_in D_Run_counts.F
  refine F.ok sc_run (fun vs H Q E h => ?_) (fun cdv A outer s H vs Q E hr h => ?_)
  · obtain ⟨sa, ra, v, s, g, as, ds, rfl, _⟩ := h
    rfl
  obtain ⟨sa, ra, v, s, g, as, ds, rfl, hS, gS, hG, hg, hra, pd, gd, hl, q⟩ := h
  refine ⟨_, (pss_cons (ps_expr (pe_call G_need_all (hr.mono (by first | decide | omega)) (by rfl) D_need_all.m D_need_all.F.kp D_need_all.b .nil pass0 (pa_cons (pv 0) (pa_cons (pv 1) (pa_cons (pv 2) pa_nil)))))
  (pss_cons (ps_set (i := 3) sc_run.nd rfl (Or.inl rfl) (pe_make KC_Run.M G_Run___init__ (hr.mono (by first | decide | omega)) (by rfl) KC_Run.g D_Run___init__.b .nil pass0 (pa_cons (pv 0) (pa_cons (pv 1) (pa_cons (pv 2) pa_nil)))))
  (pss_one (ps_ret (pe_tup (pa_cons (pe_fld (pv 3) rfl) (pa_cons (pe_callTy call_tuple_of (by rfl) T.n_tuple (by decide +kernel) (pa_cons (pe_fld (pv 3) rfl) pa_nil)) (pa_cons (pe_meth0 (pv 3) KC_Run.cl D_Run_counts.m G_Run_counts (hr.mono (by first | decide | omega)) D_Run_counts.b .nil pass0) pa_nil)))))))), ?_⟩
  and_intros
  refine ⟨sa, ra, v, s, g, as, ds, rfl, hS, gS, hG, hg, hra, pd, gd, hl, fun H1 s1 => ?_⟩
  and_intros
  intro x dx nx ndx nex
  have sB : Same H1 (upd (upd H1 dx (.own x)) x (.ins CR dx [])) := fun b o e => by
    rw [upd_ne (ne_of_none e nx), upd_ne (ne_of_none e ndx)]
    exact e
  refine ⟨x, dx, sa, ra, v, s, g, H1, as, ds, rfl, upd_same, sB, nx, hS.imm (Imm.same s1), gS, hG.same s1, hg, same_l s1 hra, pd.imm (Imm.same s1), gd, hl, fun h cA lA aA rA st H2 o => ?_⟩
  have iv := runTo_inv gS hg gd ds.length (Nat.le_refl _)
  have rl := iv.rl
  have l1 := iv.iv.l1
  have l2 := iv.iv.l2
  have r2 := gS.r2
  have w2 := gS.w2
  have l1 : (((runTo s g ds ds.length).st.1.length : Nat) : Int) ≤ s.rm := l1
  have l2 : (((runTo s g ds ds.length).st.2.1.length : Nat) : Int) ≤ s.ms := l2
  generalize runTo s g ds ds.length = r at o rl l1 l2 q
  refine ⟨rfl, ?_⟩
  refine ⟨_, rfl, x, CR, dx, _, _, rfl, o.ob, KC_Run.cl, RC.answers, rfl, ?_⟩
  refine ⟨_, rfl, x, CR, dx, _, _, rfl, o.ob, KC_Run.cl, RC.cells, rfl, ?_⟩
  refine ⟨_, _, rfl, .inl ⟨sql o.hc, fun t nt => ?_⟩⟩
  have o3 := o.same (same_upd (o := .tup (r.cells.map V.int)) nt)
  have e3 : SqT K (upd H2 t (.tup (r.cells.map V.int))) t (r.cells.map V.int) := sqt upd_same
  generalize upd H2 t (.tup (r.cells.map V.int)) = H3 at o3 e3 ⊢
  refine ⟨_, rfl, x, dx, _, rfl, o3.ob, rfl, ?_⟩
  refine ⟨x, dx, h, v, cA, lA, aA, rA, st, cfgOf s g, H1, r, rfl, o3, by omega, by omega, by omega, fun kT H4 s4 hk => ?_⟩
  have o4 := o3.same s4
  have e4 := same_t s4 e3
  and_intros
  intro tp np
  have o5 := o4.same (same_upd (o := .tup [.ref aA, .ref t, .ref kT]) np)
  exact q tp aA t kT _ (s1.trans o5.s0) (s1.free o.na) (sqt upd_same) o5.ha (same_t (same_upd np) e4) (same_t (same_upd np) hk)
end
end St

namespace St
open PySem PySem.Spec PyProof.Rows L2
abbrev s__law_setting : Stmt := topS 40
abbrev N__law_setting : List Str := ["_law_row", "_law_most", "_law_memory", "_law_room", "_law_k"]
abbrev p__law_setting : List Str := ["_law_row", "_law_most"]
theorem sc__law_setting : FnScope N__law_setting p__law_setting (defScope s__law_setting) := ⟨rfl, rfl, rfl, by decide +kernel, rfl, by decide +kernel, by decide +kernel⟩
section
variable {P : Program} {w : World} {K : PySem.W.Frag} {mg : Str → Option Value} {base : Heap} {f fT fP : Addr} {fd fdT fdP : FuncData}
def spSetting (K : PySem.W.Frag) : Sp := fun vs H Q _ => ∃ (r : Addr) (m : Int), vs = [.ref r, .int m] ∧ Row K H r ∧ 1 ≤ m ∧ m ≤ 32 ∧
  ∀ (a : Addr) (s : Stg) H', SameX r H H' → Row K H' r → IsSet K H' a s → s.Good → ((s.mem.length : Nat) : Int) ≤ m → Q (.ref a) H'
theorem ok__law_setting (T : Nms mg) (D__law_taken : Df K mg "_law_taken" s__law_taken p__law_taken fT fdT) (F : Fun K "_law_setting" "_law_setting" s__law_setting f fd) : FnOk P w K mg base CX0 2 f fd p__law_setting (spSetting K) := by
  have G__law_taken : FnOk P w K mg base CX0 1 fT fdT p__law_taken (spTaken K) := ok__law_taken D__law_taken.F T
  refine F.ok sc__law_setting (fun vs H Q E h => ?_) (fun cdv A outer s H vs Q E hr h => ?_)
  · obtain ⟨r, m, rfl, _⟩ := h
    rfl
  obtain ⟨r, m, rfl, hR, hm, hm2, q⟩ := h
  refine ⟨_, (pss_cons (ps_set (i := 2) sc__law_setting.nd rfl (Or.inl rfl) (pe_callTy call_tuple_of (by rfl) T.n_tuple (by decide +kernel) (pa_cons (pe_lc (own := [("_law_k", 4)]) (g := gName 4) rfl sc__law_setting.nd (pi_range1 rfl T.n_range (pa_cons (pe_op op_add pe_int (pe_call G__law_taken (hr.mono (by first | decide | omega)) (by rfl) D__law_taken.m D__law_taken.F.kp D__law_taken.b .nil pass0 (pa_cons (pv 0) (pa_cons (pv 1) pa_nil)))) pa_nil)) (blkOk_by (own := [("_law_k", 4)]) (N := N__law_setting) (sc := defScope s__law_setting) (by decide +kernel)) (fun _ _ _ _ _ => pg_name (i := 4) sc__law_setting.nd rfl (Or.inl rfl)) (fun _ _ _ _ _ => pts_nil) (fun _ _ _ _ _ => (pe_call G__law_taken (hr.mono (by first | decide | omega)) (by rfl) D__law_taken.m D__law_taken.F.kp D__law_taken.b .nil pass0 (pa_cons (pv 0) (pa_cons pe_int pa_nil))))) pa_nil)))
  (pss_cons (ps_set (i := 3) sc__law_setting.nd rfl (Or.inl rfl) (pe_op op_add pe_int (pe_call G__law_taken (hr.mono (by first | decide | omega)) (by rfl) D__law_taken.m D__law_taken.F.kp D__law_taken.b .nil pass0 (pa_cons (pv 0) (pa_cons (pe_ix ix_list (pe_lst (pa_cons pe_int (pa_cons pe_int pa_nil))) (pe_call G__law_taken (hr.mono (by first | decide | omega)) (by rfl) D__law_taken.m D__law_taken.F.kp D__law_taken.b .nil pass0 (pa_cons (pv 0) (pa_cons pe_int pa_nil))) (fun _ _ => rfl)) pa_nil)))))
  (pss_one (ps_ret (pe_tup (pa_cons (pv 2) (pa_cons (pv 3) (pa_cons (pe_ix ix_list (pe_lst (pa_cons pe_int (pa_cons pe_int (pa_cons (pe_call G__law_taken (hr.mono (by first | decide | omega)) (by rfl) D__law_taken.m D__law_taken.F.kp D__law_taken.b .nil pass0 (pa_cons (pv 0) (pa_cons pe_int pa_nil))) pa_nil)))) (pe_call G__law_taken (hr.mono (by first | decide | omega)) (by rfl) D__law_taken.m D__law_taken.F.kp D__law_taken.b .nil pass0 (pa_cons (pv 0) (pa_cons pe_int pa_nil))) (fun _ _ => rfl)) (pa_cons (pe_op op_add pe_int (pe_call G__law_taken (hr.mono (by first | decide | omega)) (by rfl) D__law_taken.m D__law_taken.F.kp D__law_taken.b .nil pass0 (pa_cons (pv 0) (pa_cons pe_int pa_nil)))) pa_nil))))))))), ?_⟩
  and_intros
  refine ⟨r, m, rfl, hR, by omega, fun n H1 n0 n1 s1 hR1 => ?_⟩
  refine ⟨_, _, rfl, rfl, _, rfl, by omega, by omega, fun D nD => ?_⟩
  have hDr : D ≠ r := hR1.nr nD
  refine lc_range (lo := 0) (n := (1 + n).toNat) (fun i H' => ∃ ns : List Int, H' D = some (.lst (ns.map V.int)) ∧ ns.length = i ∧ (∀ x ∈ ns, 0 ≤ x ∧ x ≤ 99) ∧ SameX r H1 H' ∧ Row K H' r) ⟨[], upd_same, rfl, fun _ h => (nomatch h), SameX.of (same_upd nD), hR1.same (same_upd nD)⟩ (fun i H' hi h => ?_) (fun H' h => ?_)
  · obtain ⟨ns, e, l, b, sx, hr⟩ := h
    refine ⟨rfl, ?_⟩
    and_intros
    refine ⟨r, 100, rfl, hr, by decide, fun x H2 x0 x1 s2 hR2 => ?_⟩
    refine ⟨_, s2 _ _ hDr e, by rw [List.length_map]; exact szl (by omega), ns ++ [x], by rw [upd_same, List.map_append]; rfl, by rw [List.length_append, l]; rfl, fun y hy => ?_, samex_mut (sx.trans s2) nD, hR2.upd ⟨_, s2 _ _ hDr e⟩ hDr⟩
    rcases List.mem_append.mp hy with hy | hy
    · exact b y hy
    · rw [List.mem_singleton.mp hy]
      omega
  · obtain ⟨ns, e, l, b, sx, hr⟩ := h
    refine ⟨_, _, rfl, .inl ⟨sql e, fun t nt => ?_⟩⟩
    have et : SqT K (upd H' t (.tup (ns.map V.int))) t (ns.map V.int) := sqt upd_same
    have sx2 := s1.trans (sx.trans (SameX.of (same_upd (o := .tup (ns.map V.int)) nt)))
    have hr2 := hr.same (same_upd (o := .tup (ns.map V.int)) nt)
    generalize upd H' t (.tup (ns.map V.int)) = H2 at et sx2 hr2 ⊢
    clear e sx hr
    and_intros
    intro l1 nl1
    have e3 : (upd H2 l1 (.lst [.int 3, .int 8])) l1 = some (.lst [.int 3, .int 8]) := upd_same
    have hr3 := hr2.same (same_upd (o := .lst [.int 3, .int 8]) nl1)
    have sx3 := sx2.trans (SameX.of (same_upd (o := .lst [.int 3, .int 8]) nl1))
    have et3 := same_t (same_upd (o := .lst [.int 3, .int 8]) nl1) et
    have n3r := hr2.nr nl1
    generalize upd H2 l1 (.lst [.int 3, .int 8]) = H3 at e3 hr3 sx3 et3 ⊢
    and_intros
    refine ⟨r, 2, rfl, hr3, by decide, fun x H4 x0 x1 s4 hR4 => ?_⟩
    obtain ⟨rm, rm1, rm2, hx⟩ : ∃ rm : Int, 0 < rm ∧ rm ≤ 8 ∧ atI [V.int 3, V.int 8] x = some (.int rm) := by
      have : x = 0 ∨ x = 1 := by omega
      rcases this with rfl | rfl
      · exact ⟨3, by decide, by decide, rfl⟩
      · exact ⟨8, by decide, by decide, rfl⟩
    refine ⟨_, _, _, _, rfl, rfl, sql (s4 _ _ n3r e3), hx, ?_⟩
    refine ⟨r, rm, rfl, hR4, rm1, fun y H5 y0 y1 s5 hR5 => ?_⟩
    have sx5 := (sx3.trans s4).trans s5
    have et5 := ((Imm.sameX s4 hr3.at_).trans (Imm.sameX s5 hR4.at_)).t et3
    and_intros
    refine ⟨r, 5, rfl, hR5, by decide, fun z H6 z0 z1 s6 hR6 => ?_⟩
    have sx6 := sx5.trans s6
    have et6 := (Imm.sameX s6 hR5.at_).t et5
    and_intros
    intro l2 nl2
    have e7 : (upd H6 l2 (.lst [.int 0, .int 1, .int z])) l2 = some (.lst [.int 0, .int 1, .int z]) := upd_same
    have hr7 := hR6.same (same_upd (o := .lst [.int 0, .int 1, .int z]) nl2)
    have sx7 := sx6.trans (SameX.of (same_upd (o := .lst [.int 0, .int 1, .int z]) nl2))
    have et7 := same_t (same_upd (o := .lst [.int 0, .int 1, .int z]) nl2) et6
    have n7r := hR6.nr nl2
    generalize upd H6 l2 (.lst [.int 0, .int 1, .int z]) = H7 at e7 hr7 sx7 et7 ⊢
    and_intros
    refine ⟨r, 3, rfl, hr7, by decide, fun u H8 u0 u1 s8 hR8 => ?_⟩
    obtain ⟨lt, lt1, lt2, hu⟩ : ∃ lt : Int, 0 ≤ lt ∧ lt ≤ 4 ∧ atI [V.int 0, V.int 1, V.int z] u = some (.int lt) := by
      have : u = 0 ∨ u = 1 ∨ u = 2 := by omega
      rcases this with rfl | rfl | rfl
      · exact ⟨0, by decide, by decide, rfl⟩
      · exact ⟨1, by decide, by decide, rfl⟩
      · exact ⟨z, by omega, by omega, rfl⟩
    refine ⟨_, _, _, _, rfl, rfl, sql (s8 _ _ n7r e7), hu, ?_⟩
    and_intros
    refine ⟨r, 4, rfl, hR8, by decide, fun ms H9 ms0 ms1 s9 hR9 => ?_⟩
    have sx9 := (sx7.trans s8).trans s9
    have et9 := ((Imm.sameX s8 hr7.at_).trans (Imm.sameX s9 hR8.at_)).t et7
    and_intros
    intro p np
    have ln : ns.length = (1 + n).toNat := l
    exact q p ⟨ns, 1 + y, lt, 1 + ms⟩ _ (sx9.trans (SameX.of (same_upd np))) (hR9.same (same_upd np)) ⟨t, sqt upd_same, same_t (same_upd np) et9⟩
      ⟨by show 1 ≤ ns.length; omega, by show ns.length ≤ 32; omega, b, by show (1 : Int) ≤ 1 + y; omega, by show 1 + y ≤ 8; omega, lt1, lt2, by show (1 : Int) ≤ 1 + ms; omega, by show 1 + ms ≤ 4; omega⟩ (by show ((ns.length : Nat) : Int) ≤ m; omega)
end
end St

namespace St
open PySem PySem.Spec PyProof.Rows L2
/-! ### memory alone -/
def plainD (s : List Int × List Int) : Deed → List Int × List Int
  | (p, none) => (s.1 ++ [s.2.getD p.toNat 0], s.2)
  | (p, some v) => (s.1, s.2.set p.toNat v)
def plainP (mem : List Int) (ds : List Deed) : List Int × List Int := ds.foldl plainD ([], mem)
theorem plain_len (mem : List Int) : ∀ (ds : List Deed) (s : List Int × List Int), s.2.length = mem.length → (ds.foldl plainD s).2.length = mem.length ∧ (ds.foldl plainD s).1.length ≤ s.1.length + ds.length
  | [], s, h => ⟨h, Nat.le_refl _⟩
  | (p, none) :: ds, s, h => by
    obtain ⟨a, b⟩ := plain_len mem ds (plainD s (p, none)) h
    refine ⟨a, Nat.le_trans b ?_⟩
    show (s.1 ++ [_]).length + ds.length ≤ s.1.length + (ds.length + 1)
    rw [List.length_append]
    show s.1.length + 1 + _ ≤ _
    omega
  | (p, some v) :: ds, s, h => by
    obtain ⟨a, b⟩ := plain_len mem ds (plainD s (p, some v)) (by show (s.2.set _ _).length = _; rw [List.length_set]; exact h)
    refine ⟨a, Nat.le_trans b ?_⟩
    show s.1.length + ds.length ≤ s.1.length + (ds.length + 1)
    omega
end St

namespace St
open PySem PySem.Spec PyProof.Rows L2
/-! ### the counts of a run: what stands in balance -/
def cE (x : Str) (es : Evs) : Nat := (es.filter fun e => decide (e.1 = x)).length
def cR (x : Str) (rs : List (Int × Str × Int)) : Nat := (rs.filter fun e => decide (e.2.1 = x)).length
theorem cE_app (x : Str) (a b : Evs) : cE x (a ++ b) = cE x a + cE x b := by unfold cE; rw [List.filter_append, List.length_append]
theorem cE_nil (x : Str) : cE x [] = 0 := rfl
theorem cE_one (x y : Str) (p : Int) : cE x [(y, p)] = if y = x then 1 else 0 := by
  unfold cE
  rw [List.filter_cons]
  by_cases c : y = x
  · rw [if_pos (by simp [c]), if_pos c]; rfl
  · rw [if_neg (by simp [c]), if_neg c]; rfl
theorem cR_app (x : Str) (a b : List (Int × Str × Int)) : cR x (a ++ b) = cR x a + cR x b := by unfold cR; rw [List.filter_append, List.length_append]
def rowsE (t : Int) (es : Evs) : List (Int × Str × Int) := es.map fun e => (t, e.1, e.2)
theorem cR_rows (x : Str) (t : Int) (es : Evs) : cR x (rowsE t es) = cE x es := by
  unfold cR rowsE cE
  rw [List.filter_map, List.length_map]
  rfl
theorem evs_rowsE (t : Int) : ∀ (es : Evs) (s : RunS), (es.foldl (evS t) s).rows = s.rows ++ rowsE t es
  | [], s => (List.append_nil _).symm
  | e :: es, s => by
    rw [List.foldl_cons, evs_rowsE t es]
    show s.rows ++ [(t, e.1, e.2)] ++ rowsE t es = s.rows ++ ((t, e.1, e.2) :: rowsE t es)
    rw [List.append_assoc]
    rfl
theorem cnt1 (x : Str) (rs : List (Int × Str × Int)) : cntP [x] rs = cR x rs := by
  unfold cntP cR
  congr 1
  refine List.filter_congr fun e _ => ?_
  simp
theorem cnt2 {x y : Str} (h : x ≠ y) (rs : List (Int × Str × Int)) : cntP [x, y] rs = cR x rs + cR y rs := by
  unfold cntP cR
  induction rs with
  | nil => rfl
  | cons e r ih =>
    rw [List.filter_cons, List.filter_cons, List.filter_cons]
    by_cases c1 : e.2.1 = x
    · have c2 : ¬ e.2.1 = y := fun z => h (c1.symm.trans z)
      rw [if_pos (by simp [c1]), if_pos (by simp [c1]), if_neg (by simp [c2])]
      rw [List.length_cons, List.length_cons, ih]
      omega
    · by_cases c2 : e.2.1 = y
      · rw [if_pos (by simp [c2]), if_neg (by simp [c1]), if_pos (by simp [c2])]
        rw [List.length_cons, List.length_cons, ih]
        omega
      · rw [if_neg (by simp [c1, c2]), if_neg (by simp [c1]), if_neg (by simp [c2])]
        exact ih
def fN (sh : Shelf) : Nat := (sh.filter fun e => e.2).length
theorem fN_app (a b : Shelf) : fN (a ++ b) = fN a + fN b := by unfold fN; rw [List.filter_append, List.length_append]
theorem fN_one (p : Int) (w : Bool) : fN [(p, w)] = if w = true then 1 else 0 := by cases w <;> rfl
theorem fN_cons (e : Int × Bool) (r : Shelf) : fN (e :: r) = (if e.2 = true then 1 else 0) + fN r := by
  unfold fN
  rw [List.filter_cons]
  cases h : e.2
  · simp
  · simp; omega
/-- how many events tell of an ask -/
structure NoAsk (es : Evs) : Prop where
  h : cE "hit" es = 0
  f : cE "first" es = 0
  l : cE "late" es = 0
  m : cE "miss" es = 0
  s : cE "start" es = 0
theorem NoAsk.app {a b : Evs} (x : NoAsk a) (y : NoAsk b) : NoAsk (a ++ b) := by
  refine ⟨?_, ?_, ?_, ?_, ?_⟩ <;> rw [cE_app]
  · rw [x.h, y.h]
  · rw [x.f, y.f]
  · rw [x.l, y.l]
  · rw [x.m, y.m]
  · rw [x.s, y.s]
theorem laid_b (rm : Int) (sh : Shelf) (p : Int) (w : Bool) : NoAsk (laidP rm sh p w).2 ∧ fN (laidP rm sh p w).1 + cE "waste" (laidP rm sh p w).2 = fN sh + (if w = true then 1 else 0) := by
  unfold laidP
  split
  · cases sh with
    | nil => exact ⟨⟨rfl, rfl, rfl, rfl, rfl⟩, by show fN [(p, w)] + cE "waste" [] = fN [] + _; rw [fN_one, cE_nil]; show _ = 0 + _; omega⟩
    | cons e r =>
      obtain ⟨q, b⟩ := e
      cases b with
      | true =>
        refine ⟨⟨?_, ?_, ?_, ?_, ?_⟩, ?_⟩
        · show cE "hit" [(("waste" : Str), q)] = 0
          rw [cE_one, if_neg (by decide)]
        · show cE "first" [(("waste" : Str), q)] = 0
          rw [cE_one, if_neg (by decide)]
        · show cE "late" [(("waste" : Str), q)] = 0
          rw [cE_one, if_neg (by decide)]
        · show cE "miss" [(("waste" : Str), q)] = 0
          rw [cE_one, if_neg (by decide)]
        · show cE "start" [(("waste" : Str), q)] = 0
          rw [cE_one, if_neg (by decide)]
        · show fN (r ++ [(p, w)]) + cE "waste" [(("waste" : Str), q)] = fN ((q, true) :: r) + _
          have h1 : cE "waste" [(("waste" : Str), q)] = 1 := by rw [cE_one, if_pos rfl]
          have h2 : fN ((q, true) :: r) = 1 + fN r := by rw [fN_cons, if_pos rfl]
          rw [fN_app, fN_one, h1, h2]
          omega
      | false =>
        refine ⟨⟨?_, ?_, ?_, ?_, ?_⟩, ?_⟩
        · show cE "hit" [(("leave" : Str), q)] = 0
          rw [cE_one, if_neg (by decide)]
        · show cE "first" [(("leave" : Str), q)] = 0
          rw [cE_one, if_neg (by decide)]
        · show cE "late" [(("leave" : Str), q)] = 0
          rw [cE_one, if_neg (by decide)]
        · show cE "miss" [(("leave" : Str), q)] = 0
          rw [cE_one, if_neg (by decide)]
        · show cE "start" [(("leave" : Str), q)] = 0
          rw [cE_one, if_neg (by decide)]
        · show fN (r ++ [(p, w)]) + cE "waste" [(("leave" : Str), q)] = fN ((q, false) :: r) + _
          have h1 : cE "waste" [(("leave" : Str), q)] = 0 := by rw [cE_one, if_neg (by decide)]
          have h2 : fN ((q, false) :: r) = fN r := by rw [fN_cons, if_neg (by simp), Nat.zero_add]
          rw [fN_app, fN_one, h1, h2]
          omega
  · refine ⟨⟨rfl, rfl, rfl, rfl, rfl⟩, ?_⟩
    show fN (sh ++ [(p, w)]) + 0 = _
    rw [fN_app, fN_one]
    rfl
theorem noAsk_come (p : Int) : NoAsk [(("come" : Str), p)] ∧ cE "waste" [(("come" : Str), p)] = 0 := by
  refine ⟨⟨?_, ?_, ?_, ?_, ?_⟩, ?_⟩ <;> rw [cE_one, if_neg (by decide)]
theorem come_b (rm : Int) : ∀ (wy : Way) (sh : Shelf) (left : Way) (evs : Evs), NoAsk evs →
    NoAsk (wy.foldl (comeS rm) (sh, left, evs)).2.2 ∧ fN (wy.foldl (comeS rm) (sh, left, evs)).1 + (wy.foldl (comeS rm) (sh, left, evs)).2.1.length + cE "waste" (wy.foldl (comeS rm) (sh, left, evs)).2.2 = fN sh + left.length + wy.length + cE "waste" evs
  | [], sh, left, evs, h => ⟨h, rfl⟩
  | (p, t) :: wy, sh, left, evs, h => by
    rw [List.foldl_cons]
    by_cases c : t = 0
    · have e2 : comeS rm (sh, left, evs) (p, t) = ((laidP rm sh p true).1, left, evs ++ (laidP rm sh p true).2 ++ [(("come" : Str), p)]) := if_pos c
      rw [e2]
      obtain ⟨a, b⟩ := laid_b rm sh p true
      obtain ⟨n1, n2⟩ := noAsk_come p
      obtain ⟨i1, i2⟩ := come_b rm wy (laidP rm sh p true).1 left (evs ++ (laidP rm sh p true).2 ++ [(("come" : Str), p)]) ((h.app a).app n1)
      refine ⟨i1, ?_⟩
      rw [i2, cE_app, cE_app, n2, List.length_cons]
      rw [if_pos rfl] at b
      omega
    · have e2 : comeS rm (sh, left, evs) (p, t) = (sh, left ++ [(p, t - 1)], evs) := if_neg c
      rw [e2]
      obtain ⟨i1, i2⟩ := come_b rm wy sh (left ++ [(p, t - 1)]) evs h
      refine ⟨i1, ?_⟩
      rw [i2]
      simp only [List.length_append, List.length_cons, List.length_nil]
      omega
theorem filter_key {β : Type} {l : List (Int × β)} {p : Int} (nd : (ks l).Nodup) : (p ∉ ks l ∧ (l.filter fun e => decide (e.1 ≠ p)).length = l.length) ∨ (p ∈ ks l ∧ (l.filter fun e => decide (e.1 ≠ p)).length + 1 = l.length) := by
  induction l with
  | nil => exact .inl ⟨fun h => (nomatch h), rfl⟩
  | cons a r ih =>
    have nd' : (a.1 :: ks r).Nodup := nd
    rw [List.nodup_cons] at nd'
    rw [List.filter_cons]
    by_cases c : a.1 = p
    · refine .inr ⟨by show p ∈ a.1 :: ks r; rw [c]; exact List.mem_cons_self .., ?_⟩
      rw [if_neg (by simp [c])]
      rcases ih nd'.2 with ⟨_, h⟩ | ⟨h, _⟩
      · rw [h]; rfl
      · rw [← c] at h
        exact absurd h nd'.1
    · rw [if_pos (by simp [c])]
      rcases ih nd'.2 with ⟨h1, h⟩ | ⟨h1, h⟩
      · refine .inl ⟨fun z => ?_, by rw [List.length_cons, List.length_cons, h]⟩
        rcases List.mem_cons.mp z with z | z
        · exact c z.symm
        · exact h1 z
      · exact .inr ⟨List.mem_cons_of_mem _ h1, by rw [List.length_cons, List.length_cons]; omega⟩
theorem fN_out {sh : Shelf} {e : Int × Bool} (nd : (ks sh).Nodup) (he : e ∈ sh) : fN (sh.filter fun o => decide (o ≠ e)) + (if e.2 = true then 1 else 0) = fN sh := by
  induction sh with
  | nil => cases he
  | cons a r ih =>
    have nd' : (a.1 :: ks r).Nodup := nd
    rw [List.nodup_cons] at nd'
    rw [List.filter_cons]
    by_cases c : a = e
    · subst c
      rw [if_neg (by simp), fN_cons]
      have : r.filter (fun o => decide (o ≠ a)) = r := List.filter_eq_self.mpr fun o ho => decide_eq_true fun z => nd'.1 (List.mem_map.mpr ⟨o, ho, by rw [z]⟩)
      rw [this]
      omega
    · rw [if_pos (by simp [c]), fN_cons, fN_cons]
      rcases List.mem_cons.mp he with h | h
      · exact absurd h.symm c
      · have := ih nd'.2 h
        omega
/-- one ask -/
structure OneAsk (es : Evs) : Prop where
  n : cE "hit" es + cE "first" es + cE "late" es + cE "miss" es = 1
  s : cE "start" es = 0
theorem asked_b {rm : Int} {sh : Shelf} {wy : Way} {p : Int} (nd : (ks sh).Nodup) (nw : (ks wy).Nodup) : OneAsk (askedP rm sh wy p).2.2 ∧
    fN (askedP rm sh wy p).1 + (askedP rm sh wy p).2.1.length + cE "waste" (askedP rm sh wy p).2.2 + cE "first" (askedP rm sh wy p).2.2 + cE "late" (askedP rm sh wy p).2.2 = fN sh + wy.length := by
  unfold askedP
  cases f : sh.find? (fun e => decide (e.1 = p)) with
  | some x =>
    obtain ⟨hx, xp⟩ := find_ks f
    have o := fN_out nd hx
    obtain ⟨q, b⟩ := x
    show OneAsk [((if b then "first" else "hit" : Str), p)] ∧ fN (sh.filter (fun o => decide (o ≠ (q, b))) ++ [(p, false)]) + wy.length + cE "waste" [((if b then "first" else "hit" : Str), p)] + cE "first" [((if b then "first" else "hit" : Str), p)] + cE "late" [((if b then "first" else "hit" : Str), p)] = _
    rw [fN_app, show fN [(p, false)] = 0 from rfl]
    cases b with
    | true =>
      rw [if_pos rfl] at o ⊢
      refine ⟨⟨?_, ?_⟩, ?_⟩
      · rw [cE_one, cE_one, cE_one, cE_one, if_neg (by decide), if_pos rfl, if_neg (by decide), if_neg (by decide)]
      · rw [cE_one, if_neg (by decide)]
      · rw [cE_one, cE_one, cE_one, if_neg (by decide), if_pos rfl, if_neg (by decide)]
        omega
    | false =>
      rw [if_neg (by simp)] at o ⊢
      refine ⟨⟨?_, ?_⟩, ?_⟩
      · rw [cE_one, cE_one, cE_one, cE_one, if_pos rfl, if_neg (by decide), if_neg (by decide), if_neg (by decide)]
      · rw [cE_one, if_neg (by decide)]
      · rw [cE_one, cE_one, cE_one, if_neg (by decide), if_neg (by decide), if_neg (by decide)]
        omega
  | none =>
    obtain ⟨a, b⟩ := laid_b rm sh p false
    rw [if_neg (by simp)] at b
    show OneAsk ((laidP rm sh p false).2 ++ [((if (wy.filter fun e => decide (e.1 ≠ p)).length = wy.length then "miss" else "late" : Str), p)]) ∧ fN (laidP rm sh p false).1 + (wy.filter fun e => decide (e.1 ≠ p)).length + cE "waste" ((laidP rm sh p false).2 ++ [((if (wy.filter fun e => decide (e.1 ≠ p)).length = wy.length then "miss" else "late" : Str), p)]) + cE "first" ((laidP rm sh p false).2 ++ [((if (wy.filter fun e => decide (e.1 ≠ p)).length = wy.length then "miss" else "late" : Str), p)]) + cE "late" ((laidP rm sh p false).2 ++ [((if (wy.filter fun e => decide (e.1 ≠ p)).length = wy.length then "miss" else "late" : Str), p)]) = _
    rcases filter_key (p := p) nw with ⟨_, h⟩ | ⟨_, h⟩
    · rw [if_pos h]
      refine ⟨⟨?_, ?_⟩, ?_⟩
      · rw [cE_app, cE_app, cE_app, cE_app, a.h, a.f, a.l, a.m, cE_one, cE_one, cE_one, cE_one, if_neg (by decide), if_neg (by decide), if_neg (by decide), if_pos rfl]
      · rw [cE_app, a.s, cE_one, if_neg (by decide)]
      · rw [cE_app, cE_app, cE_app, a.f, a.l, cE_one, cE_one, cE_one, if_neg (by decide), if_neg (by decide), if_neg (by decide)]
        omega
    · rw [if_neg (by omega)]
      refine ⟨⟨?_, ?_⟩, ?_⟩
      · rw [cE_app, cE_app, cE_app, cE_app, a.h, a.f, a.l, a.m, cE_one, cE_one, cE_one, cE_one, if_neg (by decide), if_neg (by decide), if_pos rfl, if_neg (by decide)]
      · rw [cE_app, a.s, cE_one, if_neg (by decide)]
      · rw [cE_app, cE_app, cE_app, a.f, a.l, cE_one, cE_one, cE_one, if_neg (by decide), if_neg (by decide), if_pos rfl]
        omega
theorem start_b {pl lt ms : Int} {sh : Shelf} : ∀ (gs : List Int) (wy : Way) (evs : Evs),
    (gs.foldl (startS pl lt ms sh) (wy, evs)).1.length + cE "start" evs = wy.length + cE "start" (gs.foldl (startS pl lt ms sh) (wy, evs)).2 ∧ ∀ x : Str, x ≠ "start" → cE x (gs.foldl (startS pl lt ms sh) (wy, evs)).2 = cE x evs
  | [], wy, evs => ⟨rfl, fun _ _ => rfl⟩
  | g :: gs, wy, evs => by
    rw [List.foldl_cons]
    by_cases c : (0 ≤ g ∧ g < pl) ∧ g ∉ sh.map (·.1) ++ wy.map (·.1) ∧ ((wy.length : Nat) : Int) < ms
    · have e : startS pl lt ms sh (wy, evs) g = (wy ++ [(g, lt)], evs ++ [(("start" : Str), g)]) := if_pos c
      rw [e]
      obtain ⟨i1, i2⟩ := start_b (pl := pl) (lt := lt) (ms := ms) (sh := sh) gs (wy ++ [(g, lt)]) (evs ++ [(("start" : Str), g)])
      refine ⟨?_, fun x hx => ?_⟩
      · rw [cE_app, cE_one, if_pos rfl, List.length_append] at i1
        have i1 : _ = wy.length + 1 + _ := i1
        omega
      · rw [i2 x hx, cE_app, cE_one, if_neg (Ne.symm hx)]
        rfl
    · have e : startS pl lt ms sh (wy, evs) g = (wy, evs) := if_neg c
      rw [e]
      exact start_b gs wy evs
/-- a turn -/
theorem gone_b {pl rm lt ms : Int} {g : G} {s : RSt} {p : Int} (h1 : 1 ≤ rm) (I : InvS pl rm ms s.1 s.2.1) :
    cE "hit" (goneP pl rm lt ms g s p).2 + cE "first" (goneP pl rm lt ms g s p).2 + cE "late" (goneP pl rm lt ms g s p).2 + cE "miss" (goneP pl rm lt ms g s p).2 = 1 ∧
    idleN (goneP pl rm lt ms g s p).1 + cE "waste" (goneP pl rm lt ms g s p).2 + cE "first" (goneP pl rm lt ms g s p).2 + cE "late" (goneP pl rm lt ms g s p).2 = idleN s + cE "start" (goneP pl rm lt ms g s p).2 := by
  obtain ⟨sh, wy, kn⟩ := s
  obtain ⟨c1, _, _, _, _⟩ := come_inv (A := (· ∈ ks sh)) h1 wy sh [] [] I.nd I.rg I.l1 (fun q => Iff.rfl)
  obtain ⟨m1, m2⟩ := come_b rm wy sh [] [] ⟨rfl, rfl, rfl, rfl, rfl⟩
  rw [List.nodup_append] at c1
  obtain ⟨a1, a2⟩ := asked_b (rm := rm) (p := p) c1.1 c1.2.1
  unfold goneP comeP
  show cE "hit" ((wy.foldl (comeS rm) (sh, [], [])).2.2 ++ (askedP rm (wy.foldl (comeS rm) (sh, [], [])).1 (wy.foldl (comeS rm) (sh, [], [])).2.1 p).2.2 ++ _) + cE "first" (_ ++ _ ++ _) + cE "late" (_ ++ _ ++ _) + cE "miss" (_ ++ _ ++ _) = 1 ∧ fN (askedP rm (wy.foldl (comeS rm) (sh, [], [])).1 (wy.foldl (comeS rm) (sh, [], [])).2.1 p).1 + (startedP pl lt ms _ _ _).1.length + cE "waste" (_ ++ _ ++ _) + cE "first" (_ ++ _ ++ _) + cE "late" (_ ++ _ ++ _) = fN sh + wy.length + cE "start" (_ ++ _ ++ _)
  generalize wy.foldl (comeS rm) (sh, [], []) = c at m1 m2 a1 a2
  generalize askedP rm c.1 c.2.1 p = a at a1 a2
  obtain ⟨b1, b2⟩ := start_b (pl := pl) (lt := lt) (ms := ms) (sh := a.1) (stepG g kn p).2 a.2.1 []
  have b1 : (startedP pl lt ms a.1 a.2.1 (stepG g kn p).2).1.length + 0 = a.2.1.length + cE "start" (startedP pl lt ms a.1 a.2.1 (stepG g kn p).2).2 := b1
  have b2 : ∀ x : Str, x ≠ "start" → cE x (startedP pl lt ms a.1 a.2.1 (stepG g kn p).2).2 = 0 := b2
  generalize startedP pl lt ms a.1 a.2.1 (stepG g kn p).2 = z at b1 b2
  have z1 := b2 "hit" (by decide)
  have z2 := b2 "first" (by decide)
  have z3 := b2 "late" (by decide)
  have z4 := b2 "miss" (by decide)
  have z5 := b2 "waste" (by decide)
  have an := a1.n
  have as := a1.s
  have m2 : fN c.1 + c.2.1.length + cE "waste" c.2.2 = fN sh + 0 + wy.length + 0 := m2
  simp only [cE_app, m1.h, m1.f, m1.l, m1.m, m1.s, z1, z2, z3, z4, z5, as]
  constructor
  · omega
  · omega
structure Bal (n : Nat) (s : RunS) : Prop where
  a : cR "hit" s.rows + cR "first" s.rows + cR "late" s.rows + cR "miss" s.rows = n
  b : idleN s.st + cR "waste" s.rows + cR "first" s.rows + cR "late" s.rows = cR "start" s.rows
theorem doD_rows (d : Deed) (s : RunS) : (doD d s).rows = s.rows ∧ (doD d s).st = s.st := by
  unfold doD
  split <;> exact ⟨rfl, rfl⟩
theorem deed_bal {c : Cfg} (ok : c.Ok) {n m : Nat} {s : RunS} {t : Int} {d : Deed} (I : InvD c n s) (hd : Deed.Good c.pl d) (B : Bal m s) : Bal (m + 1) (deedS c t d s) := by
  obtain ⟨g1, g2⟩ := gone_b (lt := c.lt) (g := c.g) (s := s.st) (p := d.1) ok.r1 I.iv
  have g1 : cE "hit" (goC c s.st d.1).2 + cE "first" (goC c s.st d.1).2 + cE "late" (goC c s.st d.1).2 + cE "miss" (goC c s.st d.1).2 = 1 := g1
  have g2 : idleN (goC c s.st d.1).1 + cE "waste" (goC c s.st d.1).2 + cE "first" (goC c s.st d.1).2 + cE "late" (goC c s.st d.1).2 = idleN s.st + cE "start" (goC c s.st d.1).2 := g2
  obtain ⟨_, g4, _⟩ := gone_inv (lt := c.lt) (g := c.g) (s := s.st) ok.r1 I.iv (Deed.pl hd)
  obtain ⟨_, _, _, _, _, e6⟩ := evs_run (turn := t) (s := { s with st := (goC c s.st d.1).1 }) (es := (goC c s.st d.1).2) I.ke g4
  have er := evs_rowsE t (goC c s.st d.1).2 { s with st := (goC c s.st d.1).1 }
  have er : ((goC c s.st d.1).2.foldl (evS t) { s with st := (goC c s.st d.1).1 }).rows = s.rows ++ rowsE t (goC c s.st d.1).2 := er
  have e6 : ((goC c s.st d.1).2.foldl (evS t) { s with st := (goC c s.st d.1).1 }).st = (goC c s.st d.1).1 := e6
  unfold deedS
  obtain ⟨d1, d2⟩ := doD_rows d ((goC c s.st d.1).2.foldl (evS t) { s with st := (goC c s.st d.1).1 })
  have a := B.a
  have b := B.b
  refine ⟨?_, ?_⟩
  · rw [d1, er, cR_app, cR_app, cR_app, cR_app, cR_rows, cR_rows, cR_rows, cR_rows]
    omega
  · rw [d1, d2, e6, er, cR_app, cR_app, cR_app, cR_app, cR_rows, cR_rows, cR_rows, cR_rows]
    omega
theorem runTo_bal {s : Stg} {g : G} (hs : s.Good) (hg : good 3 g = true) {ds : List Deed} (hd : ∀ d ∈ ds, Deed.Good ((s.mem.length : Nat) : Int) d) : ∀ i, i ≤ ds.length → Bal i (runTo s g ds i)
  | 0, _ => ⟨rfl, rfl⟩
  | i + 1, hi => by
    have ih := runTo_bal hs hg hd i (by omega)
    have iv := runTo_inv hs hg hd i (by omega)
    unfold runTo
    rw [List.getElem?_eq_getElem (show i < ds.length by omega)]
    exact deed_bal (cfg_ok hs hg) iv (hd _ (List.getElem_mem (by omega))) ih
/-! ### answers and memory are those of memory alone -/
theorem lk_none {k : Int} : ∀ {l : List (Int × Int)}, k ∉ ks l → l.lookup k = none
  | [], _ => rfl
  | (a, b) :: r, h => by
    have h1 : k ≠ a := fun z => h (z ▸ List.mem_cons_self ..)
    have : (k == a) = false := beq_eq_false_iff_ne.mpr h1
    rw [List.lookup_cons, this]
    exact lk_none fun z => h (List.mem_cons_of_mem _ z)
theorem lk_map {k v q : Int} : ∀ {l : List (Int × Int)}, k ∈ ks l → (l.map fun e => if e.1 = k then (e.1, v) else e).lookup q = if q = k then some v else l.lookup q
  | [], h => nomatch h
  | (x, y) :: r, h => by
    rw [List.map_cons]
    by_cases d : x = k
    · subst d
      rw [if_pos rfl]
      by_cases e : q = x
      · subst e; simp [List.lookup]
      · have z : (q == x) = false := beq_eq_false_iff_ne.mpr e
        rw [List.lookup_cons, z, if_neg e, List.lookup_cons, z]
        by_cases c2 : x ∈ ks r
        · have := lk_map (v := v) (q := q) c2
          rw [if_neg e] at this
          exact this
        · have : r.map (fun e => if e.1 = x then (e.1, v) else e) = r := by
            refine (List.map_congr_left fun e he => ?_).trans (List.map_id r)
            rw [if_neg]
            · rfl
            · intro z
              exact c2 (List.mem_map.mpr ⟨e, he, z⟩)
          rw [this]
    · rw [if_neg d]
      have c2 : k ∈ ks r := by
        rcases List.mem_cons.mp h with h | h
        · exact absurd h.symm d
        · exact h
      have := lk_map (v := v) (q := q) c2
      by_cases e : q = x
      · subst e
        rw [if_neg d]
        simp [List.lookup]
      · have h : (q == x) = false := beq_eq_false_iff_ne.mpr e
        rw [List.lookup_cons, h, List.lookup_cons, h]
        exact this
theorem lk_put {l : List (Int × Int)} {k v q : Int} : (putI l k v).lookup q = if q = k then some v else l.lookup q := by
  unfold putI
  by_cases c : k ∈ ks l
  · obtain ⟨x, hx, ex⟩ := List.mem_map.mp c
    rw [if_pos (List.any_eq_true.mpr ⟨x, hx, decide_eq_true ex⟩)]
    exact lk_map c
  · rw [if_neg (fun z => by
      obtain ⟨x, hx, ex⟩ := List.any_eq_true.mp z
      exact c (List.mem_map.mpr ⟨x, hx, of_decide_eq_true ex⟩))]
    by_cases e : q = k
    · subst e
      rw [if_pos rfl, List.lookup_append, lk_none c]
      simp [List.lookup]
    · rw [if_neg e, List.lookup_append]
      have h : (q == k) = false := beq_eq_false_iff_ne.mpr e
      cases f : l.lookup q with
      | none => simp [List.lookup, h]
      | some v => rfl
theorem lk_drop {l : List (Int × Int)} {k q : Int} : (l.filter fun e => decide (e.1 ≠ k)).lookup q = if q = k then none else l.lookup q := by
  induction l with
  | nil => simp [List.lookup]
  | cons a r ih =>
    obtain ⟨x, y⟩ := a
    rw [List.filter_cons]
    by_cases c : x = k
    · subst c
      rw [if_neg (by simp), ih]
      by_cases d : q = x
      · subst d; simp
      · have : (q == x) = false := beq_eq_false_iff_ne.mpr d
        rw [if_neg d, if_neg d, List.lookup_cons, this]
    · rw [if_pos (by simp [c]), List.lookup_cons, List.lookup_cons]
      by_cases d : q = x
      · subst d
        simp [c]
      · have : (q == x) = false := beq_eq_false_iff_ne.mpr d
        rw [this]
        exact ih
/-- what lies there is memory's -/
def LieM (cells : List Int) (lies : List (Int × Int)) : Prop := ∀ q v, lies.lookup q = some v → 0 ≤ q ∧ v = cells.getD q.toNat 0
theorem evs_lie {pl : Int} {B : Int → Prop} {turn : Int} : ∀ {es : Evs} {A : Int → Prop} {s : RunS}, Ch pl A es B → LieM s.cells s.lies → LieM s.cells (es.foldl (evS turn) s).lies
  | [], _, _, _, h => h
  | (w, p) :: es, A, s, hc, h => by
    obtain ⟨hp, hc⟩ := hc
    have z : ∃ A', Ch pl A' es B ∧ LieM s.cells (evS turn s (w, p)).lies := by
      by_cases o : isOut w
      · rw [if_pos o] at hc
        refine ⟨_, hc.2, fun q v e => ?_⟩
        have e2 : (evS turn s (w, p)).lies = s.lies.filter (fun x => decide (x.1 ≠ p)) := if_pos o
        rw [e2, lk_drop] at e
        by_cases c : q = p
        · rw [if_pos c] at e; cases e
        · rw [if_neg c] at e
          exact h q v e
      · rw [if_neg o] at hc
        by_cases i : isIn w
        · rw [if_pos i] at hc
          refine ⟨_, hc, fun q v e => ?_⟩
          have e2 : (evS turn s (w, p)).lies = putI s.lies p (s.cells.getD p.toNat 0) := (if_neg o).trans (if_pos i)
          rw [e2, lk_put] at e
          by_cases c : q = p
          · rw [if_pos c] at e
            cases e
            rw [c]
            exact ⟨hp.1, rfl⟩
          · rw [if_neg c] at e
            exact h q v e
        · rw [if_neg i] at hc
          refine ⟨_, hc, fun q v e => ?_⟩
          have e2 : (evS turn s (w, p)).lies = s.lies := (if_neg o).trans (if_neg i)
          rw [e2] at e
          exact h q v e
    obtain ⟨A', z1, z2⟩ := z
    exact evs_lie (s := evS turn s (w, p)) z1 z2
structure Plain (n : Nat) (mem : List Int) (ds : List Deed) (s : RunS) : Prop where
  l : LieM s.cells s.lies
  a : (s.answers, s.cells) = plainP mem (ds.take n)
theorem deed_plain {c : Cfg} (ok : c.Ok) {n : Nat} {s : RunS} {t : Int} {d : Deed} {mem : List Int} {ds : List Deed} (I : InvD c n s) (hd : Deed.Good c.pl d) (ed : ds[n]? = some d) (Q : Plain n mem ds s) : Plain (n + 1) mem ds (deedS c t d s) := by
  obtain ⟨_, g2, g3⟩ := gone_inv (lt := c.lt) (g := c.g) (s := s.st) ok.r1 I.iv (Deed.pl hd)
  obtain ⟨e1, e2, e3, e4, e5, e6⟩ := evs_run (turn := t) (s := { s with st := (goC c s.st d.1).1 }) (es := (goC c s.st d.1).2) I.ke g2
  have hl := evs_lie (turn := t) (s := { s with st := (goC c s.st d.1).1 }) (es := (goC c s.st d.1).2) g2 Q.l
  have ce := I.ce
  have tk : plainP mem (ds.take (n + 1)) = plainD (plainP mem (ds.take n)) d := by
    rw [List.take_add_one, ed]
    unfold plainP
    rw [List.foldl_append]
    rfl
  unfold deedS
  generalize (goC c s.st d.1).2.foldl (evS t) { s with st := (goC c s.st d.1).1 } = u at e1 e4 e5 hl
  have e4 : u.cells = s.cells := e4
  have e5 : u.answers = s.answers := e5
  have hl2 : LieM u.cells u.lies := by rw [e4]; exact hl
  have pk : d.1 ∈ ks u.lies := (e1 _).mpr g3
  have qa : (u.answers, u.cells) = plainP mem (ds.take n) := by rw [e4, e5]; exact Q.a
  have ce : ((u.cells.length : Nat) : Int) = c.pl := by rw [e4]; exact ce
  obtain ⟨v0, ev0⟩ := look_ks pk
  obtain ⟨l0, l1⟩ := hl2 _ _ ev0
  obtain ⟨p, v⟩ := d
  cases v with
  | none =>
    refine ⟨hl2, ?_⟩
    rw [tk, ← qa]
    show (u.answers ++ [(u.lies.lookup p).getD 0], u.cells) = (u.answers ++ [u.cells.getD p.toNat 0], u.cells)
    rw [show u.lies.lookup p = some v0 from ev0, l1]
    rfl
  | some v =>
    have hp : (0 ≤ p ∧ p < c.pl) ∧ 0 ≤ v ∧ v ≤ 99 := hd
    refine ⟨fun q x e => ?_, ?_⟩
    · have e : (putI u.lies p v).lookup q = some x := e
      show 0 ≤ q ∧ x = (u.cells.set p.toNat v).getD q.toNat 0
      rw [lk_put] at e
      by_cases cq : q = p
      · rw [if_pos cq] at e
        cases e
        subst cq
        refine ⟨hp.1.1, ?_⟩
        rw [List.getD_eq_getElem?_getD, List.getElem?_set_self (by omega)]
        rfl
      · rw [if_neg cq] at e
        obtain ⟨q0, q1⟩ := hl2 q x e
        refine ⟨q0, ?_⟩
        rw [q1, List.getD_eq_getElem?_getD, List.getD_eq_getElem?_getD, List.getElem?_set_ne (by omega)]
    · rw [tk, ← qa]
      rfl
theorem runTo_plain {s : Stg} {g : G} (hs : s.Good) (hg : good 3 g = true) {ds : List Deed} (hd : ∀ d ∈ ds, Deed.Good ((s.mem.length : Nat) : Int) d) : ∀ i, i ≤ ds.length → Plain i s.mem ds (runTo s g ds i)
  | 0, _ => ⟨fun _ _ h => (nomatch h), by rw [List.take_zero]; rfl⟩
  | i + 1, hi => by
    have ih := runTo_plain hs hg hd i (by omega)
    have iv := runTo_inv hs hg hd i (by omega)
    have hi' : i < ds.length := hi
    unfold runTo
    rw [List.getElem?_eq_getElem hi']
    exact deed_plain (cfg_ok hs hg) iv (hd _ (List.getElem_mem hi')) (List.getElem?_eq_getElem hi') ih
end St

namespace St
open PySem PySem.Spec PyProof.Rows L2
/-! ### one stride throughout -/
def pa (b f : Int) (k : Nat) : Int := b + (k : Int) * f
theorem pa_succ (b f : Int) (k : Nat) : pa b f (k + 1) = pa b f k + f := by
  unfold pa
  rw [Int.natCast_add, Int.add_mul]
  have : ((1 : Nat) : Int) * f = f := Int.one_mul f
  omega
theorem pa_inj {b f : Int} (h : f ≠ 0) {j k : Nat} (e : pa b f j = pa b f k) : j = k := by
  unfold pa at e
  have e2 : ((j : Int) - (k : Int)) * f = 0 := by rw [Int.sub_mul]; omega
  rcases Int.mul_eq_zero.mp e2 with z | z
  · omega
  · exact absurd z h
/-- what a guesser by strides knows behind so many -/
def kS (b f : Int) : Nat → Sg
  | 0 => .str none 0 0
  | 1 => .str (some (pa b f 0)) 0 0
  | i + 2 => .str (some (pa b f (i + 1))) f ((i : Int) + 1)
inductive StrG (t : Int) : G → Prop
  | one : StrG t (.leaf "stride" [t])
  | two : StrG t (.both (.leaf "none" []) (.leaf "stride" [t]))
def knG (b f : Int) (i : Nat) : G → Sg
  | .both _ _ => .both (.prs none []) (kS b f i)
  | _ => kS b f i
def gsG (b f t : Int) (i : Nat) : List Int := if 1 ≤ i ∧ t ≤ (i : Int) then [pa b f (i + 1)] else []
theorem kS_step {b f t : Int} (hf : f ≠ 0) : ∀ i : Nat, (match kS b f i with | .str l st n => strStep t l st n (pa b f i) | s => (s, [])) = (kS b f (i + 1), gsG b f t i)
  | 0 => rfl
  | 1 => by
    have e : pa b f 1 - pa b f 0 = f := by rw [pa_succ]; omega
    show strStep t (some (pa b f 0)) 0 0 (pa b f 1) = _
    unfold strStep gsG
    simp only [e, if_neg hf]
    have e2 : pa b f 1 + f = pa b f 2 := (pa_succ b f 1).symm
    rw [e2]
    by_cases c : t ≤ 1
    · rw [if_pos ⟨hf, c⟩, if_pos ⟨Nat.le_refl _, c⟩]; rfl
    · rw [if_neg (fun z => c z.2), if_neg (fun z => c z.2)]; rfl
  | i + 2 => by
    have e : pa b f (i + 2) - pa b f (i + 1) = f := by rw [pa_succ b f (i + 1)]; omega
    show strStep t (some (pa b f (i + 1))) f ((i : Int) + 1) (pa b f (i + 2)) = _
    unfold strStep gsG
    simp only [e, if_true]
    have e2 : pa b f (i + 2) + f = pa b f (i + 2 + 1) := (pa_succ b f (i + 2)).symm
    have e3 : ((i + 2 : Nat) : Int) = (i : Int) + 1 + 1 := by omega
    have e4 : kS b f (i + 2 + 1) = .str (some (pa b f (i + 2))) f (((i + 1 : Nat) : Int) + 1) := rfl
    have e5 : ((i + 1 : Nat) : Int) = (i : Int) + 1 := by omega
    rw [e2, e3, e4, e5]
    by_cases c : t ≤ (i : Int) + 1 + 1
    · rw [if_pos ⟨hf, c⟩, if_pos ⟨by omega, c⟩]
    · rw [if_neg (fun z => c z.2), if_neg (fun z => c z.2)]
theorem stepG_leafS {b f t : Int} (hf : f ≠ 0) (i : Nat) : stepG (.leaf "stride" [t]) (kS b f i) (pa b f i) = (kS b f (i + 1), gsG b f t i) := by
  have z := kS_step (b := b) (t := t) hf i
  rw [← z]
  unfold stepG
  rw [if_neg (by decide), if_neg (by decide)]
  cases i with
  | zero => rfl
  | succ j => cases j <;> rfl
theorem stepG_S {b f t : Int} {g : G} (hf : f ≠ 0) (h : StrG t g) (i : Nat) : stepG g (knG b f i g) (pa b f i) = (knG b f (i + 1) g, gsG b f t i) := by
  cases h with
  | one => exact stepG_leafS hf i
  | two =>
    show ((Sg.both (stepG (.leaf "none" []) (.prs none []) (pa b f i)).1 (stepG (.leaf "stride" [t]) (kS b f i) (pa b f i)).1), (stepG (.leaf "none" []) (.prs none []) (pa b f i)).2 ++ (stepG (.leaf "stride" [t]) (kS b f i) (pa b f i)).2.filter fun e => decide (e ∉ (stepG (.leaf "none" []) (.prs none []) (pa b f i)).2)) = _
    rw [stepG_leafS hf i]
    have e : stepG (.leaf "none" []) (.prs none []) (pa b f i) = (.prs none [], []) := rfl
    rw [e]
    have e2 : (gsG b f t i).filter (fun e => decide (e ∉ ([] : List Int))) = gsG b f t i := List.filter_eq_self.mpr fun x _ => by simp
    show (Sg.both (.prs none []) (kS b f (i + 1)), [] ++ (gsG b f t i).filter (fun e => decide (e ∉ ([] : List Int)))) = _
    rw [e2]
    rfl
theorem knG_first {b f t : Int} {g : G} (h : StrG t g) : first0 g = knG b f 0 g := by
  cases h <;> rfl
theorem good_StrG {t : Int} {g : G} (h : StrG t g) (h1 : 1 ≤ t) (h3 : t ≤ 3) : good 3 g = true := by
  cases h with
  | one => exact good_stride h1 h3
  | two => exact (Bool.and_eq_true _ _).mpr ⟨good_none 2, good_stride h1 h3⟩
theorem fN_zero {sh : Shelf} (h : fN sh = 0) : ∀ e ∈ sh, e.2 = false := fun e he => by
  have := List.length_eq_zero_iff.mp h
  cases c : e.2 with
  | false => rfl
  | true =>
    have m : e ∈ sh.filter fun e => e.2 := List.mem_filter.mpr ⟨he, c⟩
    rw [this] at m
    cases m
theorem laid_form (rm : Int) {sh : Shelf} (p : Int) (h : fN sh = 0) : ∃ (i : Shelf) (evs : Evs), (∀ w, laidP rm sh p w = (i ++ [(p, w)], evs)) ∧ (∀ q ∈ ks i, q ∈ ks sh) ∧ fN i = 0 ∧ NoAsk evs ∧ cE "waste" evs = 0 := by
  by_cases c : ((sh.length : Nat) : Int) = rm
  · cases sh with
    | nil => exact ⟨[], [], fun w => if_pos c, fun q hq => hq, rfl, ⟨rfl, rfl, rfl, rfl, rfl⟩, rfl⟩
    | cons e r =>
      have ef := fN_zero h e (List.mem_cons_self ..)
      rw [fN_cons, ef] at h
      have hr : fN r = 0 := by simpa using h
      refine ⟨r, [(("leave" : Str), e.1)], fun w => ?_, fun q hq => List.mem_cons_of_mem _ hq, hr, ⟨?_, ?_, ?_, ?_, ?_⟩, ?_⟩
      · have z : laidP rm (e :: r) p w = (r ++ [(p, w)], [((if e.2 then "waste" else "leave" : Str), e.1)]) := if_pos c
        rw [z, ef]
        rfl
      all_goals rw [cE_one, if_neg (by decide)]
  · exact ⟨sh, [], fun w => if_neg c, fun q hq => hq, h, ⟨rfl, rfl, rfl, rfl, rfl⟩, rfl⟩
theorem find_no {sh : Shelf} {p : Int} (h : p ∉ ks sh) : sh.find? (fun e => decide (e.1 = p)) = none := by
  rw [List.find?_eq_none]
  intro e he z
  exact h (List.mem_map.mpr ⟨e, he, of_decide_eq_true z⟩)
theorem asked_no {rm : Int} {sh : Shelf} {wy : Way} {p : Int} (h : p ∉ ks sh) : askedP rm sh wy p = ((laidP rm sh p false).1, wy.filter (fun e => decide (e.1 ≠ p)), (laidP rm sh p false).2 ++ [((if (wy.filter fun e => decide (e.1 ≠ p)).length = wy.length then "miss" else "late" : Str), p)]) := by
  unfold askedP
  rw [find_no h]
/-- up to the ask -/
theorem turn_s {rm lt : Int} {sh : Shelf} {wy : Way} {p : Int} (h0 : fN sh = 0) (hp : p ∉ ks sh) (hw : wy = [] ∨ wy = [(p, lt)]) :
    ∃ i : Shelf, (askedP rm (comeP rm sh wy).1 (comeP rm sh wy).2.1 p).1 = i ++ [(p, false)] ∧ (askedP rm (comeP rm sh wy).1 (comeP rm sh wy).2.1 p).2.1 = [] ∧ (∀ q ∈ ks i, q ∈ ks sh) ∧ fN i = 0 ∧
      cE "waste" ((comeP rm sh wy).2.2 ++ (askedP rm (comeP rm sh wy).1 (comeP rm sh wy).2.1 p).2.2) = 0 ∧
      cE "miss" ((comeP rm sh wy).2.2 ++ (askedP rm (comeP rm sh wy).1 (comeP rm sh wy).2.1 p).2.2) = (if wy = [] then 1 else 0) ∧
      cE "first" ((comeP rm sh wy).2.2 ++ (askedP rm (comeP rm sh wy).1 (comeP rm sh wy).2.1 p).2.2) = (if wy ≠ [] ∧ lt = 0 then 1 else 0) ∧
      cE "late" ((comeP rm sh wy).2.2 ++ (askedP rm (comeP rm sh wy).1 (comeP rm sh wy).2.1 p).2.2) = (if wy ≠ [] ∧ lt ≠ 0 then 1 else 0) := by
  obtain ⟨i, evs, e1, e2, e3, e4, e5⟩ := laid_form rm p h0
  rcases hw with rfl | rfl
  · have c : comeP rm sh [] = (sh, [], []) := rfl
    rw [c]
    show ∃ j, (askedP rm sh [] p).1 = j ++ [(p, false)] ∧ (askedP rm sh [] p).2.1 = [] ∧ _ ∧ _ ∧ cE "waste" ([] ++ (askedP rm sh [] p).2.2) = 0 ∧ cE "miss" ([] ++ (askedP rm sh [] p).2.2) = _ ∧ cE "first" ([] ++ (askedP rm sh [] p).2.2) = _ ∧ cE "late" ([] ++ (askedP rm sh [] p).2.2) = _
    rw [asked_no hp, e1]
    refine ⟨i, rfl, rfl, e2, e3, ?_, ?_, ?_, ?_⟩
    · show cE "waste" ([] ++ (evs ++ [(("miss" : Str), p)])) = 0
      rw [cE_app, cE_app, e5, cE_one, if_neg (by decide)]; rfl
    · show cE "miss" ([] ++ (evs ++ [(("miss" : Str), p)])) = _
      rw [cE_app, cE_app, e4.m, cE_one, if_pos rfl, if_pos rfl]; rfl
    · show cE "first" ([] ++ (evs ++ [(("miss" : Str), p)])) = _
      rw [cE_app, cE_app, e4.f, cE_one, if_neg (by decide), if_neg (by simp)]; rfl
    · show cE "late" ([] ++ (evs ++ [(("miss" : Str), p)])) = _
      rw [cE_app, cE_app, e4.l, cE_one, if_neg (by decide), if_neg (by simp)]; rfl
  · by_cases z : lt = 0
    · subst z
      have c : comeP rm sh [(p, 0)] = (i ++ [(p, true)], [], [] ++ evs ++ [(("come" : Str), p)]) := by
        show comeS rm (sh, [], []) (p, 0) = _
        unfold comeS
        rw [if_pos rfl]
        show ((laidP rm sh p true).1, _, [] ++ (laidP rm sh p true).2 ++ [_]) = _
        rw [e1]
      rw [c]
      have pi : p ∉ ks i := fun y => hp (e2 p y)
      have fd : (i ++ [(p, true)]).find? (fun e => decide (e.1 = p)) = some (p, true) := by
        rw [List.find?_append, find_no pi]
        simp
      have a : askedP rm (i ++ [(p, true)]) [] p = ((i ++ [(p, true)]).filter (fun o => decide (o ≠ (p, true))) ++ [(p, false)], [], [(("first" : Str), p)]) := by
        unfold askedP
        rw [fd]
        rfl
      show ∃ j, (askedP rm (i ++ [(p, true)]) [] p).1 = j ++ [(p, false)] ∧ (askedP rm (i ++ [(p, true)]) [] p).2.1 = [] ∧ _ ∧ _ ∧ cE "waste" ([] ++ evs ++ [(("come" : Str), p)] ++ (askedP rm (i ++ [(p, true)]) [] p).2.2) = 0 ∧ cE "miss" ([] ++ evs ++ [(("come" : Str), p)] ++ (askedP rm (i ++ [(p, true)]) [] p).2.2) = _ ∧ cE "first" ([] ++ evs ++ [(("come" : Str), p)] ++ (askedP rm (i ++ [(p, true)]) [] p).2.2) = _ ∧ cE "late" ([] ++ evs ++ [(("come" : Str), p)] ++ (askedP rm (i ++ [(p, true)]) [] p).2.2) = _
      rw [a]
      have fl : (i ++ [(p, true)]).filter (fun o => decide (o ≠ (p, true))) = i := by
        rw [List.filter_append]
        have : i.filter (fun o => decide (o ≠ (p, true))) = i := List.filter_eq_self.mpr fun o ho => decide_eq_true fun y => pi (List.mem_map.mpr ⟨o, ho, by rw [y]⟩)
        rw [this]
        simp
      refine ⟨i, by show (i ++ [(p, true)]).filter _ ++ [(p, false)] = _; rw [fl], rfl, e2, e3, ?_, ?_, ?_, ?_⟩
      · rw [cE_app, cE_app, cE_app, e5, cE_one, cE_one, if_neg (by decide), if_neg (by decide)]; rfl
      · rw [cE_app, cE_app, cE_app, e4.m, cE_one, cE_one, if_neg (by decide), if_neg (by decide), if_neg (by simp)]; rfl
      · rw [cE_app, cE_app, cE_app, e4.f, cE_one, cE_one, if_neg (by decide), if_pos rfl, if_pos ⟨by simp, rfl⟩]; rfl
      · rw [cE_app, cE_app, cE_app, e4.l, cE_one, cE_one, if_neg (by decide), if_neg (by decide), if_neg (by simp)]; rfl
    · have c : comeP rm sh [(p, lt)] = (sh, [(p, lt - 1)], []) := by
        show comeS rm (sh, [], []) (p, lt) = _
        unfold comeS
        rw [if_neg z]
        rfl
      rw [c]
      have fl : ([(p, lt - 1)] : Way).filter (fun e => decide (e.1 ≠ p)) = [] := by simp
      show ∃ j, (askedP rm sh [(p, lt - 1)] p).1 = j ++ [(p, false)] ∧ (askedP rm sh [(p, lt - 1)] p).2.1 = [] ∧ _ ∧ _ ∧ cE "waste" ([] ++ (askedP rm sh [(p, lt - 1)] p).2.2) = 0 ∧ cE "miss" ([] ++ (askedP rm sh [(p, lt - 1)] p).2.2) = _ ∧ cE "first" ([] ++ (askedP rm sh [(p, lt - 1)] p).2.2) = _ ∧ cE "late" ([] ++ (askedP rm sh [(p, lt - 1)] p).2.2) = _
      rw [asked_no hp, e1, fl]
      refine ⟨i, rfl, rfl, e2, e3, ?_, ?_, ?_, ?_⟩
      · show cE "waste" ([] ++ (evs ++ [(("late" : Str), p)])) = 0
        rw [cE_app, cE_app, e5, cE_one, if_neg (by decide)]; rfl
      · show cE "miss" ([] ++ (evs ++ [(("late" : Str), p)])) = _
        rw [cE_app, cE_app, e4.m, cE_one, if_neg (by decide), if_neg (by simp)]; rfl
      · show cE "first" ([] ++ (evs ++ [(("late" : Str), p)])) = _
        rw [cE_app, cE_app, e4.f, cE_one, if_neg (by decide), if_neg (by simp [z])]; rfl
      · show cE "late" ([] ++ (evs ++ [(("late" : Str), p)])) = _
        rw [cE_app, cE_app, e4.l, cE_one, if_pos rfl, if_pos ⟨by simp, z⟩]; rfl
/-- the state behind so many -/
structure StS (b f t : Int) (c : Cfg) (i : Nat) (s : RunS) : Prop where
  fl : fN s.st.1 = 0
  kk : ∀ q ∈ ks s.st.1, ∃ j, j < i ∧ q = pa b f j
  wy : s.st.2.1 = if t < (i : Int) ∧ 0 ≤ pa b f i ∧ pa b f i < c.pl then [(pa b f i, c.lt)] else []
  kn : s.st.2.2 = knG b f i c.g
  m : cR "miss" s.rows = min i (t.toNat + 1)
  f1 : cR "first" s.rows = if c.lt = 0 then i - min i (t.toNat + 1) else 0
  l1 : cR "late" s.rows = if c.lt = 0 then 0 else i - min i (t.toNat + 1)
  w : cR "waste" s.rows = 0
theorem deed_S {b f t : Int} {c : Cfg} {i : Nat} {s : RunS} {T : Int} {d : Deed} (ok : c.Ok) (h1 : 1 ≤ c.ms) (hf : f ≠ 0) (t1 : 1 ≤ t) (hg : StrG t c.g) {n : Nat} (I : InvD c n s) (hd : Deed.Good c.pl d) (ed : d.1 = pa b f i) (B : StS b f t c i s) : StS b f t c (i + 1) (deedS c T d s) := by
  have hp := Deed.pl hd
  obtain ⟨_, g4, _⟩ := gone_inv (lt := c.lt) (g := c.g) (s := s.st) ok.r1 I.iv hp
  obtain ⟨_, _, _, _, _, e6⟩ := evs_run (turn := T) (s := { s with st := (goC c s.st d.1).1 }) (es := (goC c s.st d.1).2) I.ke g4
  have er := evs_rowsE T (goC c s.st d.1).2 { s with st := (goC c s.st d.1).1 }
  have er : ((goC c s.st d.1).2.foldl (evS T) { s with st := (goC c s.st d.1).1 }).rows = s.rows ++ rowsE T (goC c s.st d.1).2 := er
  have e6 : ((goC c s.st d.1).2.foldl (evS T) { s with st := (goC c s.st d.1).1 }).st = (goC c s.st d.1).1 := e6
  obtain ⟨d1, d2⟩ := doD_rows d ((goC c s.st d.1).2.foldl (evS T) { s with st := (goC c s.st d.1).1 })
  have eR : (deedS c T d s).rows = s.rows ++ rowsE T (goC c s.st d.1).2 := d1.trans er
  have eS : (deedS c T d s).st = (goC c s.st d.1).1 := d2.trans e6
  rw [ed] at hp
  have fl := B.fl
  have kk := B.kk
  have wy := B.wy
  have kn := B.kn
  have bm := B.m
  have bf := B.f1
  have bl := B.l1
  have bw := B.w
  generalize s.rows = rows at bm bf bl bw eR
  generalize deedS c T d s = s2 at eR eS
  generalize s.st = st at fl kk wy kn eR eS
  obtain ⟨sh, way, sg⟩ := st
  have kn : sg = knG b f i c.g := kn
  have wy : way = if t < (i : Int) ∧ 0 ≤ pa b f i ∧ pa b f i < c.pl then [(pa b f i, c.lt)] else [] := wy
  have fl : fN sh = 0 := fl
  have kk : ∀ q ∈ ks sh, ∃ j, j < i ∧ q = pa b f j := kk
  have np : pa b f i ∉ ks sh := fun z => by
    obtain ⟨j, hj, e⟩ := kk _ z
    have := pa_inj hf e
    omega
  have w2 : way = [] ∨ way = [(pa b f i, c.lt)] := by
    rw [wy]
    split
    · exact .inr rfl
    · exact .inl rfl
  have we : (way = []) ↔ ¬ t < (i : Int) := by
    rw [wy]
    by_cases z : t < (i : Int)
    · rw [if_pos ⟨z, hp⟩]
      simp [z]
    · rw [if_neg (fun y => z y.1)]
      simp [z]
  obtain ⟨ii, a1, a2, a3, a4, a5, a6, a7, a8⟩ := turn_s (rm := c.rm) (lt := c.lt) fl np w2
  have sg2 := stepG_S (b := b) hf hg i
  have egn : goC c (sh, way, sg) d.1 = (((askedP c.rm (comeP c.rm sh way).1 (comeP c.rm sh way).2.1 (pa b f i)).1, (startedP c.pl c.lt c.ms (askedP c.rm (comeP c.rm sh way).1 (comeP c.rm sh way).2.1 (pa b f i)).1 (askedP c.rm (comeP c.rm sh way).1 (comeP c.rm sh way).2.1 (pa b f i)).2.1 (stepG c.g sg (pa b f i)).2).1, (stepG c.g sg (pa b f i)).1),
     (comeP c.rm sh way).2.2 ++ (askedP c.rm (comeP c.rm sh way).1 (comeP c.rm sh way).2.1 (pa b f i)).2.2 ++ (startedP c.pl c.lt c.ms (askedP c.rm (comeP c.rm sh way).1 (comeP c.rm sh way).2.1 (pa b f i)).1 (askedP c.rm (comeP c.rm sh way).1 (comeP c.rm sh way).2.1 (pa b f i)).2.1 (stepG c.g sg (pa b f i)).2).2) := by rw [ed]; rfl
  rw [egn, kn, sg2, a1, a2] at eR eS
  obtain ⟨_, b2⟩ := start_b (pl := c.pl) (lt := c.lt) (ms := c.ms) (sh := ii ++ [(pa b f i, false)]) (gsG b f t i) [] []
  have b2 : ∀ x : Str, x ≠ "start" → cE x (startedP c.pl c.lt c.ms (ii ++ [(pa b f i, false)]) [] (gsG b f t i)).2 = 0 := b2
  have kk2 : ∀ q ∈ ks (ii ++ [(pa b f i, false)]), ∃ j, j < i + 1 ∧ q = pa b f j := fun q hq => by
    have : q ∈ ks ii ∨ q = pa b f i := by simpa [ks] using hq
    rcases this with h | h
    · obtain ⟨j, hj, e⟩ := kk q (a3 q h)
      exact ⟨j, by omega, e⟩
    · exact ⟨i, by omega, h⟩
  have n2 : pa b f (i + 1) ∉ ks (ii ++ [(pa b f i, false)]) := fun z => by
    obtain ⟨j, hj, e⟩ := kk2 _ z
    have := pa_inj hf e
    omega
  have way2 : (startedP c.pl c.lt c.ms (ii ++ [(pa b f i, false)]) [] (gsG b f t i)).1 = if t < ((i + 1 : Nat) : Int) ∧ 0 ≤ pa b f (i + 1) ∧ pa b f (i + 1) < c.pl then [(pa b f (i + 1), c.lt)] else [] := by
    unfold gsG
    by_cases z : t ≤ (i : Int)
    · rw [if_pos ⟨by omega, z⟩]
      show (startS c.pl c.lt c.ms (ii ++ [(pa b f i, false)]) ([], []) (pa b f (i + 1))).1 = _
      by_cases y : 0 ≤ pa b f (i + 1) ∧ pa b f (i + 1) < c.pl
      · have e : startS c.pl c.lt c.ms (ii ++ [(pa b f i, false)]) ([], []) (pa b f (i + 1)) = ([] ++ [(pa b f (i + 1), c.lt)], [] ++ [(("start" : Str), pa b f (i + 1))]) := if_pos ⟨y, by simpa [ks] using n2, by show ((0 : Nat) : Int) < c.ms; omega⟩
        rw [e, if_pos ⟨by omega, y⟩]
        rfl
      · have e : startS c.pl c.lt c.ms (ii ++ [(pa b f i, false)]) ([], []) (pa b f (i + 1)) = ([], []) := if_neg fun x => y x.1
        rw [e, if_neg fun x => y x.2]
    · rw [if_neg (fun x => z x.2), if_neg (fun x => z (by have := x.1; omega))]
      rfl
  generalize startedP c.pl c.lt c.ms (ii ++ [(pa b f i, false)]) [] (gsG b f t i) = S at eR eS b2 way2
  have tt : ((t.toNat : Nat) : Int) = t := by omega
  refine ⟨?_, ?_, ?_, ?_, ?_, ?_, ?_, ?_⟩
  · rw [eS]
    show fN (ii ++ [(pa b f i, false)]) = 0
    rw [fN_app, a4]
    rfl
  · rw [eS]
    exact kk2
  · rw [eS]
    exact way2
  · rw [eS]
  · rw [eR, cR_app, cR_rows, cE_app, a6, b2 _ (by decide), bm]
    by_cases z : t < (i : Int)
    · rw [if_neg (fun y => we.mp y z)]
      omega
    · rw [if_pos (we.mpr z)]
      omega
  · rw [eR, cR_app, cR_rows, cE_app, a7, b2 _ (by decide), bf]
    by_cases z : t < (i : Int)
    · have z1 : way ≠ [] := fun y => we.mp y z
      by_cases y : c.lt = 0
      · rw [if_pos y, if_pos ⟨z1, y⟩, if_pos y]; omega
      · rw [if_neg y, if_neg (fun x => y x.2), if_neg y]
    · rw [if_neg (fun x : way ≠ [] ∧ c.lt = 0 => x.1 (we.mpr z))]
      by_cases y : c.lt = 0
      · rw [if_pos y, if_pos y]; omega
      · rw [if_neg y, if_neg y]
  · rw [eR, cR_app, cR_rows, cE_app, a8, b2 _ (by decide), bl]
    by_cases z : t < (i : Int)
    · have z1 : way ≠ [] := fun y => we.mp y z
      by_cases y : c.lt = 0
      · rw [if_pos y, if_neg (fun x => x.2 y), if_pos y]
      · rw [if_neg y, if_pos ⟨z1, y⟩, if_neg y]; omega
    · rw [if_neg (fun x : way ≠ [] ∧ c.lt ≠ 0 => x.1 (we.mpr z))]
      by_cases y : c.lt = 0
      · rw [if_pos y, if_pos y]
      · rw [if_neg y, if_neg y]; omega
  · rw [eR, cR_app, cR_rows, cE_app, a5, b2 _ (by decide), bw]
theorem runTo_S {b f t : Int} {s : Stg} {g : G} (hs : s.Good) (hf : f ≠ 0) (t1 : 1 ≤ t) (t3 : t ≤ 3) (hg : StrG t g) {ds : List Deed} (hd : ∀ d ∈ ds, Deed.Good ((s.mem.length : Nat) : Int) d) (hp : ∀ i d, ds[i]? = some d → d.1 = pa b f i) : ∀ i, i ≤ ds.length → StS b f t (cfgOf s g) i (runTo s g ds i)
  | 0, _ => ⟨rfl, fun q hq => (nomatch (show q ∈ ([] : List Int) from hq)), by rw [if_neg (fun z => by have := z.1; omega)]; rfl, knG_first hg, rfl, by show 0 = if _ then 0 else 0; split <;> rfl, by show 0 = if _ then 0 else 0; split <;> rfl, rfl⟩
  | i + 1, hi => by
    have gg := good_StrG hg t1 t3
    have ih := runTo_S hs hf t1 t3 hg hd hp i (by omega)
    have iv := runTo_inv hs gg hd i (by omega)
    have hi' : i < ds.length := hi
    unfold runTo
    rw [List.getElem?_eq_getElem hi']
    exact deed_S (cfg_ok hs gg) hs.w1 hf t1 hg iv (hd _ (List.getElem_mem hi')) (hp _ _ (List.getElem?_eq_getElem hi')) ih
end St

namespace St
open PySem PySem.Spec PyProof.Rows L2
/-! ### data of numbers, texts, lists and tuples: its form, and that it is like itself -/
def shp : Nat → PyData → Prop
  | _, .int _ => True
  | _, .none => True
  | _, .bool _ => True
  | _, .str x => PyData.canLay0 (.str x) = true
  | n + 1, .list xs => ∀ d ∈ xs, shp n d
  | n + 1, .tuple xs => ∀ d ∈ xs, shp n d
  | _, _ => False
theorem shp_all {n : Nat} : ∀ {xs : List PyData}, (∀ d ∈ xs, d.canLay0 = true ∧ d.depth ≤ n) → PyData.canLayAll0 xs = true ∧ PyData.depthAll xs ≤ n
  | [], _ => ⟨by simp [PyData.canLayAll0], by simp [PyData.depthAll]⟩
  | x :: xs, h => by
    obtain ⟨a, b⟩ := h x (List.mem_cons_self ..)
    obtain ⟨c, d⟩ := shp_all fun y hy => h y (List.mem_cons_of_mem _ hy)
    refine ⟨by simp [PyData.canLayAll0, a, c], ?_⟩
    simp only [PyData.depthAll]
    exact Nat.max_le.mpr ⟨b, d⟩
theorem shp_ok : ∀ {n : Nat} {d : PyData}, shp n d → d.canLay0 = true ∧ d.depth ≤ n
  | _, .int _, _ => ⟨by simp [PyData.canLay0], by simp [PyData.depth]⟩
  | _, .none, _ => ⟨by simp [PyData.canLay0], by simp [PyData.depth]⟩
  | _, .bool _, _ => ⟨by simp [PyData.canLay0], by simp [PyData.depth]⟩
  | n, .str x, h => ⟨by cases n <;> exact h, by simp [PyData.depth]⟩
  | 0, .list _, h => h.elim
  | 0, .tuple _, h => h.elim
  | 0, .dict _, h => h.elim
  | _ + 1, .dict _, h => h.elim
  | n + 1, .list xs, h => by
    obtain ⟨a, b⟩ := shp_all (n := n) fun d hd => shp_ok (h d hd)
    exact ⟨by simp only [PyData.canLay0]; exact a, by simp only [PyData.depth]; omega⟩
  | n + 1, .tuple xs, h => by
    obtain ⟨a, b⟩ := shp_all (n := n) fun d hd => shp_ok (h d hd)
    exact ⟨by simp only [PyData.canLay0]; exact a, by simp only [PyData.depth]; omega⟩
theorem shp_lay {n : Nat} {d : PyData} (h : shp n d) (hn : n ≤ 64) : SeqAt.shaped d = true := by
  obtain ⟨a, b⟩ := shp_ok h
  unfold SeqAt.shaped
  rw [Bool.and_eq_true]
  exact ⟨a, decide_eq_true (by omega)⟩
theorem shp_refl {n : Nat} {d : PyData} (h : shp n d) : PyData.eqv d d = true := SeqAt.eqv_refl d (shp_ok h).1
/-! rows, deeds -/
def dR (e : Int × Str × Int) : PyData := .tuple [.int e.1, .str e.2.1, .int e.2.2]
def dRs (rs : List (Int × Str × Int)) : PyData := .list (rs.map dR)
def dD : Deed → PyData
  | (p, none) => .tuple [.str "read", .int p]
  | (p, some v) => .tuple [.str "write", .int p, .int v]
theorem dp_pair {K : PySem.W.Frag} {H : Hp} {β : Type} {F : Addr → β → Prop} {D : β → PyData} (f : ∀ p b, F p b → Dp K H (.ref p) (D b)) : ∀ {as : List Addr} {bs : List β}, Paired F as bs → DpAll K H (as.map V.ref) (bs.map D)
  | _, _, .nil => .nil
  | _, _, .cons h t => .cons (f _ _ h) (dp_pair f t)
theorem dp_R {K : PySem.W.Frag} {H : Hp} {p : Addr} {e : Int × Str × Int} (h : SqT K H p [.int e.1, .str e.2.1, .int e.2.2]) : Dp K H (.ref p) (dR e) := .tup h (.cons (.int _) (.cons (.str _) (.cons (.int _) .nil)))
theorem dp_D {K : PySem.W.Frag} {H : Hp} {p : Addr} : ∀ {d : Deed}, IsDeed K H p d → Dp K H (.ref p) (dD d)
  | (_, none), h => .tup h (.cons (.str _) (.cons (.int _) .nil))
  | (_, some _), h => .tup h (.cons (.str _) (.cons (.int _) (.cons (.int _) .nil)))
theorem dp_Rs {K : PySem.W.Frag} {H : Hp} {a : Addr} {rs : List (Int × Str × Int)} (h : IsRs K H a rs) : Dp K H (.ref a) (dRs rs) := by
  obtain ⟨as, h1, h2⟩ := h
  exact .lst (sql h1) (dp_pair (fun _ _ z => dp_R z) h2)
theorem dp_Ds {K : PySem.W.Frag} {H : Hp} {a : Addr} {as : List Addr} {ds : List Deed} (h : SqL K H a (as.map V.ref)) (p : PrD K H as ds) : Dp K H (.ref a) (.list (ds.map dD)) := .lst h (dp_pair (fun _ _ z => dp_D z) p)
theorem shp_Ds (ds : List Deed) : shp 2 (.list (ds.map dD)) := by
  intro d hd
  obtain ⟨⟨p, v⟩, _, rfl⟩ := List.mem_map.mp hd
  cases v with
  | none =>
    intro e he
    simp only [List.mem_cons, List.not_mem_nil, or_false] at he
    rcases he with rfl | rfl
    · show PyData.canLay0 (.str "read") = true
      decide +kernel
    · trivial
  | some v =>
    intro e he
    simp only [List.mem_cons, List.not_mem_nil, or_false] at he
    rcases he with rfl | rfl | rfl
    · show PyData.canLay0 (.str "write") = true
      decide +kernel
    · trivial
    · trivial
theorem dep_Rs {rs : List (Int × Str × Int)} (h : rs.length ≤ 100000) : dep 3 (dRs rs) := by
  refine ⟨by rw [List.length_map]; exact h, fun d hd => ?_⟩
  obtain ⟨e, _, rfl⟩ := List.mem_map.mp hd
  refine ⟨by show 3 ≤ 100000; decide, fun d hd => ?_⟩
  simp only [List.mem_cons, List.not_mem_nil, or_false] at hd
  rcases hd with rfl | rfl | rfl <;> trivial
end St

namespace St
open PySem PySem.Spec PyProof.Rows L2
/-! ### sum of a tuple of numbers; slices of tuples -/
section
variable {X : Cx}
def rSumT (K : PySem.W.Frag) : List V → Hp → VK → Prop := fun vs H Q => ∃ (a : Addr) (ns : List Int), vs = [V.ref a] ∧ SqT K H a (ns.map V.int) ∧ Q (.int ns.sum) H
theorem cr_sumT (hc : X.calm = true) : CallR X (.builtin "sum") (rSumT X.K) := by
  intro pins s σ H vs us Q I r h
  obtain ⟨a, ns, rfl, hs, q⟩ := h
  obtain ⟨its, rv, hl, _⟩ := I.tuple hs
  rw [Vals.ref1 r]
  have hi := rv.ints
  obtain ⟨xs, e⟩ := hi.allInts.items
  have hn : numsOf (intItems xs).toList = ns := by rw [← e]; exact hi.numsOf
  rw [nums_intItems] at hn
  rw [e] at hl
  refine PySem.W.ktm_sumG (I.ok.hd hc) hl fun h' tk t' hk => ?_
  rw [preSum_eq, List.take_of_length_le (by simp), hn]
  exact ⟨.int _, H, I.kept hk, ⟨_, rfl⟩, q⟩
end
theorem slA_ok {K : PySem.W.Frag} {H : Hp} {a : Addr} {xs : List V} {lo hi : Option Int} {Q : VK} (ha : SqT K H a xs) (q : ∀ p H', Same H H' → SqT K H' p (cutV xs lo hi) → Q (.ref p) H') : rSlA K (.ref a) lo hi H Q := by
  refine ⟨a, xs, rfl, ha, fun w => q a H (Same.refl _) ?_, fun _ p np => q p _ (same_upd np) (sqt upd_same)⟩
  have : cutV xs lo hi = xs := by
    unfold cutV
    rw [w.1, w.2]
    simp
  rw [this]
  exact ha
end St

namespace St
open PySem PySem.Spec PyProof.Rows L2
abbrev s_law : Stmt := topS 41
abbrev N_law : List Str := ["_law_script", "_law_row", "_law_turn", "_law_setting_here", "_law_far", "_law_here", "_law_row_of", "_law_times", "_law_guesser", "_law_answers", "_law_memory", "_law_counts", "_law_misses", "_law_rest", "_law_idle", "_law_hits", "_law_k", "_law_place"]
abbrev p_law : List Str := ["_law_script"]
theorem sc_law : FnScope N_law p_law (defScope s_law) := ⟨rfl, rfl, rfl, by decide +kernel, rfl, by decide +kernel, by decide +kernel⟩
def spLaw (K : PySem.W.Frag) : Sp := fun vs H Q _ => ∃ (a : Addr) (ns : List Int), vs = [.ref a] ∧ Sc K H a (ns.map V.int) ∧ ∀ H', Q (.bl true) H'
theorem filt_range (ok : Nat → Bool) (h : ∀ k, ok (k + 1) = true → ok k = true) : ∀ n, ∃ m, m ≤ n ∧ (List.range n).filter ok = List.range m ∧ ∀ k, k < m → ok k = true
  | 0 => ⟨0, Nat.le_refl _, rfl, fun k hk => absurd hk (Nat.not_lt_zero _)⟩
  | n + 1 => by
    obtain ⟨m, h1, h2, h3⟩ := filt_range ok h n
    rw [List.range_succ, List.filter_append]
    by_cases c : ok n = true
    · have dn : ∀ j, j ≤ n → ok (n - j) = true := fun j => by
        induction j with
        | zero => intro _; exact c
        | succ j ih =>
          intro hj
          have := ih (by omega)
          have e : n - j = (n - (j + 1)) + 1 := by omega
          rw [e] at this
          exact h _ this
      have all : ∀ k, k < n + 1 → ok k = true := fun k hk => by
        have := dn (n - k) (by omega)
        rwa [show n - (n - k) = k by omega] at this
      refine ⟨n + 1, Nat.le_refl _, ?_, all⟩
      have e1 : (List.range n).filter ok = List.range n := List.filter_eq_self.mpr fun k hk => all k (by have := List.mem_range.mp hk; omega)
      rw [e1, List.range_succ]
      simp [c]
    · refine ⟨m, by omega, ?_, h3⟩
      rw [h2]
      simp [c]
theorem pa_dn {b f n : Int} (hb : 0 ≤ b ∧ b < n) (k : Nat) (h : 0 ≤ pa b f (k + 1) ∧ pa b f (k + 1) < n) : 0 ≤ pa b f k ∧ pa b f k < n := by
  have e := pa_succ b f k
  by_cases c : 0 ≤ f
  · have : 0 ≤ (k : Int) * f := Int.mul_nonneg (by omega) c
    have e2 : pa b f k = b + (k : Int) * f := rfl
    omega
  · have : (k : Int) * f ≤ 0 := by
      have := Int.mul_nonneg (show (0 : Int) ≤ (k : Int) by omega) (show 0 ≤ -f by omega)
      rw [Int.mul_neg] at this
      omega
    have e2 : pa b f k = b + (k : Int) * f := rfl
    omega
theorem shp_intsT (l : List Int) : shp 1 (.tuple (l.map PyData.int)) := by
  intro d hd
  obtain ⟨i, _, rfl⟩ := List.mem_map.mp hd
  trivial
theorem dp_intsT {K : PySem.W.Frag} {H : Hp} {a : Addr} {ns : List Int} (h : SqT K H a (ns.map V.int)) : Dp K H (.ref a) (.tuple (ns.map .int)) := by
  refine .tup h ?_
  have : ∀ l : List Int, DpAll K H (l.map V.int) (l.map PyData.int) := by
    intro l
    induction l with
    | nil => exact .nil
    | cons a r ih => exact .cons (.int a) ih
  exact this ns
def rds (ps : List Int) : List Deed := ps.map fun p => (p, none)
theorem plain_rds (mem : List Int) : ∀ (ps : List Int) (s : List Int × List Int), (rds ps).foldl plainD s = (s.1 ++ ps.map (fun p => s.2.getD p.toNat 0), s.2)
  | [], s => by simp [rds]
  | p :: ps, s => by
    show (rds ps).foldl plainD (s.1 ++ [s.2.getD p.toNat 0], s.2) = _
    rw [plain_rds mem ps]
    simp
section
variable {P : Program} {w : World} {K : PySem.W.Frag} {mg : Str → Option Value} {base : Heap} {f C CR f1 f2 f3 f4 g1 g4 : Addr} {fd fd1 fd2 fd3 fd4 gd1 gd4 : FuncData}
theorem ok_law (N : NeedCo K w mg) (S : RunCo K mg C CR) (D_Run_count : Mf K CR "count" "Run.count" s_Run_count p_Run_count f1 fd1) (D_Run_counts : Mf K CR "counts" "Run.counts" s_Run_counts p_Run_counts f2 fd2) (D_idle_in : Df K mg "idle_in" s_idle_in p_idle_in f3 fd3) (D_run : Df K mg "run" s_run p_run f4 fd4)
    (D__law_taken : Df K mg "_law_taken" s__law_taken p__law_taken g1 gd1) (D__law_setting : Df K mg "_law_setting" s__law_setting p__law_setting g4 gd4)
    (F : Fun K "law" "law" s_law f fd) : FnOk P w K mg base CX0 11 f fd p_law (spLaw K) := by
  have T := S.T
  have G_run : FnOk P w K mg base CX0 10 f4 fd4 p_run (spRun K) := ok_run N S D_Run_count D_Run_counts D_idle_in D_run.F
  have G__law_taken : FnOk P w K mg base CX0 1 g1 gd1 p__law_taken (spTaken K) := ok__law_taken D__law_taken.F T
  have G__law_setting : FnOk P w K mg base CX0 2 g4 gd4 p__law_setting (spSetting K) := ok__law_setting T D__law_taken D__law_setting.F
  refine F.ok sc_law (fun vs H Q E h => ?_) (fun cdv A outer s H vs Q E hr h => ?_)
  · obtain ⟨a, ns, rfl, _⟩ := h
    rfl
  obtain ⟨a, ns, rfl, hS, q⟩ := h
  refine ⟨_, (pss_cons (ps_set (i := 1) sc_law.nd rfl (Or.inr rfl) (pe_lst (pa_cons (pv 0) (pa_cons pe_int (pa_cons pe_int pa_nil)))))
  (pss_cons (ps_for PassesOwn.never rfl (pi_range1 rfl T.n_range (pa_cons pe_int pa_nil)) (pg_name (i := 2) sc_law.nd rfl (Or.inl rfl))
    (Evl.pss_cut (ps_set (i := 3) sc_law.nd rfl (Or.inr rfl) (pe_op op_catA (pe_tup (pa_cons (pe_callTy call_tuple_of (by rfl) T.n_tuple (by decide +kernel) (pa_cons (pe_lc (own := [("_law_k", 16)]) (g := gName 16) rfl sc_law.nd (pi_range1 rfl T.n_range (pa_cons pe_int pa_nil)) (blkOk_by (own := [("_law_k", 16)]) (N := N_law) (sc := defScope s_law) (by decide +kernel)) (fun _ _ _ _ _ => pg_name (i := 16) sc_law.nd rfl (Or.inl rfl)) (fun _ _ _ _ _ => pts_nil) (fun _ _ _ _ _ => (pe_call G__law_taken (hr.mono (by first | decide | omega)) (by rfl) D__law_taken.m D__law_taken.F.kp D__law_taken.b .nil pass0 (pa_cons (pv 1) (pa_cons pe_int pa_nil))))) pa_nil)) pa_nil)) (pe_slice sl_tupA (pe_call G__law_setting (hr.mono (by first | decide | omega)) (by rfl) D__law_setting.m D__law_setting.F.kp D__law_setting.b .nil pass0 (pa_cons (pv 1) (pa_cons pe_int pa_nil))) (po_some pe_int) po_none)))
    (pss_cons (ps_set (i := 4) sc_law.nd rfl (Or.inr rfl) (pe_ix ix_list (pe_lst (pa_cons pe_int (pa_cons pe_int (pa_cons pe_int (pa_cons pe_int (pa_cons (pe_op op_sub pe_int pe_int) (pa_cons (pe_op op_sub pe_int pe_int) (pa_cons (pe_op op_sub pe_int pe_int) pa_nil)))))))) (pe_call G__law_taken (hr.mono (by first | decide | omega)) (by rfl) D__law_taken.m D__law_taken.F.kp D__law_taken.b .nil pass0 (pa_cons (pv 1) (pa_cons pe_int pa_nil))) (fun _ _ => rfl)))
    (pss_cons (ps_set (i := 5) sc_law.nd rfl (Or.inr rfl) (pe_call G__law_taken (hr.mono (by first | decide | omega)) (by rfl) D__law_taken.m D__law_taken.F.kp D__law_taken.b .nil pass0 (pa_cons (pv 1) (pa_cons pe_int pa_nil))))
    (pss_cons (ps_setLc (i := 6) (own := [("_law_k", 16)]) (g := gName 16) rfl sc_law.nd rfl rfl (sw_true rfl rfl rfl (by decide +kernel)) (pi_range1 rfl T.n_range (pa_cons pe_int pa_nil)) (blkOk_by (own := [("_law_k", 16)]) (N := N_law) (sc := defScope s_law) (by decide +kernel)) (fun _ _ _ _ _ => pg_name (i := 16) sc_law.nd rfl (Or.inl rfl)) (fun _ _ _ _ _ => pts_one (pt_chain op_le op_lt pe_int (pe_op op_add (pv 5) (pe_op op_mul (pv 16) (pv 4))) pe_int)) (fun _ _ _ _ _ => (pe_op op_add (pv 5) (pe_op op_mul (pv 16) (pv 4)))))
    (pss_cons (ps_set (i := 6) sc_law.nd rfl (Or.inl rfl) (pe_slice sl_list (pv 6) po_none (po_some (pe_op op_add pe_int (pe_call G__law_taken (hr.mono (by first | decide | omega)) (by rfl) D__law_taken.m D__law_taken.F.kp D__law_taken.b .nil pass0 (pa_cons (pv 1) (pa_cons (pe_callB call_len_seq (by rfl) T.n_len (by decide +kernel) (pa_cons (pv 6) pa_nil)) pa_nil)))))))
    (pss_cons (ps_set (i := 7) sc_law.nd rfl (Or.inl rfl) (pe_op op_add pe_int (pe_call G__law_taken (hr.mono (by first | decide | omega)) (by rfl) D__law_taken.m D__law_taken.F.kp D__law_taken.b .nil pass0 (pa_cons (pv 1) (pa_cons pe_int pa_nil)))))
    (pss_cons (ps_set (i := 8) sc_law.nd rfl (Or.inl rfl) (pe_tup (pa_cons pe_str (pa_cons (pv 7) pa_nil))))
    (Evl.pss_cut (ps_if (pt_cmpR op_eq (pe_call G__law_taken (hr.mono (by first | decide | omega)) (by rfl) D__law_taken.m D__law_taken.F.kp D__law_taken.b .nil pass0 (pa_cons (pv 1) (pa_cons pe_int pa_nil))) pe_int (nomark _))
      (pss_one (ps_set (i := 8) sc_law.nd rfl (Or.inl rfl) (pe_tup (pa_cons pe_str (pa_cons (pe_tup (pa_cons pe_str pa_nil)) (pa_cons (pv 8) pa_nil))))))
      (pss_nil))
    (pss_cons (ps_asg (pe_call G_run (hr.mono (by first | decide | omega)) (by rfl) D_run.m D_run.F.kp D_run.b .nil pass0 (pa_cons (pv 3) (pa_cons (pv 8) (pa_cons (pe_lc (own := [("_law_place", 17)]) (g := gName 17) rfl sc_law.nd (pi_list (pv 6)) (blkOk_by (own := [("_law_place", 17)]) (N := N_law) (sc := defScope s_law) (by decide +kernel)) (fun _ _ _ _ _ => pg_name (i := 17) sc_law.nd rfl (Or.inl rfl)) (fun _ _ _ _ _ => pts_nil) (fun _ _ _ _ _ => (pe_tup (pa_cons pe_str (pa_cons (pv 17) pa_nil))))) pa_nil)))) (pg_tup rfl (pgs_cons (pg_name (i := 9) sc_law.nd rfl (Or.inl rfl)) (pgs_cons (pg_name (i := 10) sc_law.nd rfl (Or.inl rfl)) (pgs_cons (pg_name (i := 11) sc_law.nd rfl (Or.inl rfl)) pgs_nil)))))
    (Evl.pss_cut (ps_set (i := 12) sc_law.nd rfl (Or.inl rfl) (pe_callB (call_min2 rfl) (by rfl) T.n_min (by decide +kernel) (pa_cons (pe_callB call_len_seq (by rfl) T.n_len (by decide +kernel) (pa_cons (pv 6) pa_nil)) (pa_cons (pe_op op_add (pv 7) pe_int) pa_nil))))
    (Evl.pss_cut (ps_set (i := 13) sc_law.nd rfl (Or.inl rfl) (pe_op op_sub (pe_callB call_len_seq (by rfl) T.n_len (by decide +kernel) (pa_cons (pv 6) pa_nil)) (pv 12)))
    (Evl.pss_cut (ps_set (i := 14) sc_law.nd rfl (Or.inl rfl) (pe_callTy call_int1 (by rfl) T.n_int (by decide +kernel) (pa_cons (pe_and (pe_cmpR op_gt (pe_callB call_len_seq (by rfl) T.n_len (by decide +kernel) (pa_cons (pv 6) pa_nil)) (pv 7) (nomark _)) (pe_one (pe_chain op_le op_lt pe_int (pe_op op_add (pe_ix ix_list (pv 6) (pe_un un_neg pe_int) (fun _ _ => rfl)) (pv 4)) pe_int))) pa_nil)))
    (Evl.pss_cut (ps_set (i := 15) sc_law.nd rfl (Or.inl rfl) (pe_ifExp (pt_cmpR op_eq (pe_ix ix_tup (pv 3) pe_int (fun _ _ => rfl)) pe_int (nomark _)) (pe_lst (pa_cons (pv 13) (pa_cons pe_int pa_nil))) (pe_lst (pa_cons pe_int (pa_cons (pv 13) pa_nil)))))
    (pss_cons (ps_if (pt_cmpR (op_neD hr.units) (pv 11) (pe_tup (pa_cons (pe_ix ix_list (pv 15) pe_int (fun _ _ => rfl)) (pa_cons (pe_ix ix_list (pv 15) pe_int (fun _ _ => rfl)) (pa_cons (pv 12) (pa_cons (pe_op op_add (pv 13) (pv 14)) (pa_cons (pv 13) (pa_cons pe_int (pa_cons (pv 14) pa_nil)))))))) (nomark _))
      (pss_one (ps_ret pe_bl))
      (pss_nil))
    (pss_one (ps_if (PW.pt (pw_or (pt_cmpR (op_neD hr.units) (pv 9) (pe_lc (own := [("_law_place", 17)]) (g := gName 17) rfl sc_law.nd (pi_list (pv 6)) (blkOk_by (own := [("_law_place", 17)]) (N := N_law) (sc := defScope s_law) (by decide +kernel)) (fun _ _ _ _ _ => pg_name (i := 17) sc_law.nd rfl (Or.inl rfl)) (fun _ _ _ _ _ => pts_nil) (fun _ _ _ _ _ => (pe_ix (ix_tupK (K := K)) (pe_ix (ix_tupK (K := K)) (pv 3) pe_int (fun _ _ => rfl)) (pv 17) (fun _ _ => rfl)))) (nomark _)) (pw_or1 (pt_cmpR (op_neD hr.units) (pv 10) (pe_ix ix_tup (pv 3) pe_int (fun _ _ => rfl)) (nomark _)))))
      (pss_one (ps_ret pe_bl))
      (pss_nil))))))))))))))))))
  (pss_one (ps_ret pe_bl)))), ?_⟩
  and_intros
  intro r nr
  have hR : Row K (upd H r (.lst [.ref a, .int 0, .int 0])) r := ⟨a, ns, 0, 0, upd_same, hS.imm (Imm.same (same_upd nr)), by omega⟩
  generalize upd H r (.lst [.ref a, .int 0, .int 0]) = H1 at hR ⊢
  and_intros
  refine for_range (lo := 0) (n := ((5 : Int)).toNat) (fun i σ H' => ∃ y2 y3 y4 y5 y6 y7 y8 y9 y10 y11 y12 y13 y14 y15, σ = [some (.ref a), some (.ref r), y2, y3, y4, y5, y6, y7, y8, y9, y10, y11, y12, y13, y14, y15, none, none] ∧ Row K H' r)
    ⟨none, none, none, none, none, none, none, none, none, none, none, none, none, none, rfl, hR⟩ (fun i σ H' hi h => ?_) (fun σ H' h => ?_)
  · obtain ⟨y2, y3, y4, y5, y6, y7, y8, y9, y10, y11, y12, y13, y14, y15, rfl, hR⟩ := h
    -- the setting
    refine ⟨fun σ' H2 => ∃ (so : Addr) (s : Stg), σ' = [some (.ref a), some (.ref r), some (.int (0 + (i : Int))), some (.ref so), y4, y5, y6, y7, y8, y9, y10, y11, y12, y13, y14, y15, none, none] ∧ Row K H2 r ∧ IsSet K H2 so s ∧ s.Good ∧ s.mem.length = 32, ?_, fun σ' H2 h => ?_⟩
    · refine ⟨_, rfl, by decide, by decide, fun D nD => ?_⟩
      have hDr : D ≠ r := hR.nr nD
      refine lc_range (lo := 0) (n := ((32 : Int)).toNat) (fun i H2 => ∃ ns : List Int, H2 D = some (.lst (ns.map V.int)) ∧ ns.length = i ∧ (∀ x ∈ ns, 0 ≤ x ∧ x ≤ 99) ∧ Row K H2 r) ⟨[], upd_same, rfl, fun _ h => (nomatch h), hR.same (same_upd nD)⟩ (fun i H2 hi h => ?_) (fun H2 h => ?_)
      · obtain ⟨ns, e, l, b, hr2⟩ := h
        refine ⟨rfl, ?_⟩
        and_intros
        refine ⟨r, 100, rfl, hr2, by decide, fun x H3 x0 x1 s2 hR2 => ?_⟩
        refine ⟨_, s2 _ _ hDr e, by rw [List.length_map]; exact szl (by have : i < 32 := hi; omega), ns ++ [x], by rw [upd_same, List.map_append]; rfl, by rw [List.length_append, l]; rfl, fun y hy => ?_, hR2.upd ⟨_, s2 _ _ hDr e⟩ hDr⟩
        rcases List.mem_append.mp hy with hy | hy
        · exact b y hy
        · rw [List.mem_singleton.mp hy]
          omega
      · obtain ⟨mem, e, l, b, hr2⟩ := h
        have l : mem.length = 32 := l
        refine ⟨_, _, rfl, .inl ⟨sql e, fun t nt => ?_⟩⟩
        have et : SqT K (upd H2 t (.tup (mem.map V.int))) t (mem.map V.int) := sqt upd_same
        have hr3 := hr2.same (same_upd (o := .tup (mem.map V.int)) nt)
        generalize upd H2 t (.tup (mem.map V.int)) = H3 at et hr3 ⊢
        refine ⟨sz_1, fun t4 n4 => ?_⟩
        have hR4 := hr3.same (same_upd (o := .tup [.ref t]) n4)
        have e4 : SqT K (upd H3 t4 (.tup [.ref t])) t4 [.ref t] := sqt upd_same
        have et4 := same_t (same_upd (o := .tup [.ref t]) n4) et
        generalize upd H3 t4 (.tup [.ref t]) = H4 at hR4 e4 et4 ⊢
        and_intros
        refine ⟨r, 1, rfl, hR4, by decide, by decide, fun sa2 s2 H5 s5 hR5 hS2 gS2 _ => ?_⟩
        have im5 := Imm.sameX s5 hR4.at_
        obtain ⟨m2, k1, k2⟩ := hS2
        and_intros
        refine ⟨_, _, rfl, k1, fun z => absurd z.1 (by show ¬ (HT.sIx 4 0 (some 1) = 0); decide), fun _ p6 n6 => ?_⟩
        rw [cut_from (by decide)]
        have s6 : Same H5 (upd H5 p6 (.tup [.int s2.rm, .int s2.lt, .int s2.ms])) := same_upd n6
        have e6 : SqT K (upd H5 p6 (.tup [.int s2.rm, .int s2.lt, .int s2.ms])) p6 [.int s2.rm, .int s2.lt, .int s2.ms] := sqt upd_same
        rw [show List.drop (Int.toNat 1) [V.ref m2, V.int s2.rm, V.int s2.lt, V.int s2.ms] = [V.int s2.rm, V.int s2.lt, V.int s2.ms] from rfl]
        generalize upd H5 p6 (.tup [.int s2.rm, .int s2.lt, .int s2.ms]) = H6 at s6 e6 ⊢
        refine catA_ok (same_t s6 (im5.t e4)) e6 (by show 1 + 3 ≤ sizeLine; decide) fun so H7 s7 e7 => ?_
        have hR7 := (hR5.same s6).same s7
        have im7 := (im5.trans (Imm.same s6)).trans (Imm.same s7)
        exact ⟨so, ⟨mem, s2.rm, s2.lt, s2.ms⟩, rfl, hR7, ⟨t, e7, im7.t et4⟩, ⟨by show 1 ≤ mem.length; omega, by show mem.length ≤ 32; omega, b, gS2.r1, gS2.r2, gS2.l1, gS2.l2, gS2.w1, gS2.w2⟩, l⟩
    · obtain ⟨so, s, rfl, hR, hSo, gS, ml⟩ := h
      -- far
      refine ⟨_, _, rfl, rfl, _, _, rfl, rfl, _, _, rfl, rfl, sz_7, fun l4 n4 => ?_⟩
      have hR3 := hR.same (same_upd (o := .lst [.int 1, .int 2, .int 3, .int 5, .int (0 - 1), .int (0 - 2), .int (0 - 4)]) n4)
      have hS3 := hSo.imm (Imm.same (same_upd (o := .lst [.int 1, .int 2, .int 3, .int 5, .int (0 - 1), .int (0 - 2), .int (0 - 4)]) n4))
      have e3 : (upd H2 l4 (.lst [.int 1, .int 2, .int 3, .int 5, .int (0 - 1), .int (0 - 2), .int (0 - 4)])) l4 = some (.lst [.int 1, .int 2, .int 3, .int 5, .int (0 - 1), .int (0 - 2), .int (0 - 4)]) := upd_same
      have n4r := hR.nr n4
      generalize upd H2 l4 (.lst [.int 1, .int 2, .int 3, .int 5, .int (0 - 1), .int (0 - 2), .int (0 - 4)]) = H3 at hR3 hS3 e3 ⊢
      refine ⟨_, rfl, r, 7, rfl, hR3, by decide, fun x H4 x0 x1 s4 hR4 => ?_⟩
      obtain ⟨f', hf0, hfb, hx⟩ : ∃ f' : Int, f' ≠ 0 ∧ (-5 ≤ f' ∧ f' ≤ 5) ∧ atI [V.int 1, V.int 2, V.int 3, V.int 5, V.int (0 - 1), V.int (0 - 2), V.int (0 - 4)] x = some (.int f') := by
        have : x = 0 ∨ x = 1 ∨ x = 2 ∨ x = 3 ∨ x = 4 ∨ x = 5 ∨ x = 6 := by omega
        rcases this with rfl | rfl | rfl | rfl | rfl | rfl | rfl
        · exact ⟨1, by decide, by decide, rfl⟩
        · exact ⟨2, by decide, by decide, rfl⟩
        · exact ⟨3, by decide, by decide, rfl⟩
        · exact ⟨5, by decide, by decide, rfl⟩
        · exact ⟨0 - 1, by decide, by decide, rfl⟩
        · exact ⟨0 - 2, by decide, by decide, rfl⟩
        · exact ⟨0 - 4, by decide, by decide, rfl⟩
      refine ⟨_, _, _, _, rfl, rfl, sql (s4 _ _ n4r e3), hx, ?_⟩
      have hS4 := hS3.imm (Imm.sameX s4 hR3.at_)
      clear e3 hx x0 x1 s4 hR3 hS3 n4r hR hSo
      -- here
      refine ⟨_, rfl, r, 32, rfl, hR4, by decide, fun b H5 b0 b1 s5 hR5 => ?_⟩
      have hS5 := hS4.imm (Imm.sameX s5 hR4.at_)
      clear s5 hR4 hS4
      -- the row
      have okd := filt_range (fun k => decide (0 ≤ pa b f' k ∧ pa b f' k < 32)) (fun k hk => decide_eq_true (pa_dn ⟨b0, b1⟩ k (of_decide_eq_true hk)))
      refine ⟨_, rfl, by decide, by decide, fun D nD => ?_⟩
      have hDr : D ≠ r := hR5.nr nD
      refine lc_range (lo := 0) (n := ((32 : Int)).toNat) (fun j H6 => Same H5 H6 ∧ H6 D = some (.lst (((List.range j).filter fun k => decide (0 ≤ pa b f' k ∧ pa b f' k < 32)).map fun k => V.int (pa b f' k)))) ⟨same_upd nD, upd_same⟩ (fun j H6 hj h => ?_) (fun H6 h => ?_)
      · obtain ⟨s6, eD⟩ := h
        have hj : j < 32 := hj
        have ep : b + (0 + (j : Int)) * f' = pa b f' j := by unfold pa; rw [Int.zero_add]
        have ml : -(2 ^ 64 : Int) < 0 + (j : Int) ∧ 0 + (j : Int) < 2 ^ 64 := by omega
        rw [List.range_succ, List.filter_append, List.map_append]
        refine ⟨rfl, _, rfl, _, rfl, _, rfl, _, _, rfl, rfl, .inl ml, _, _, rfl, rfl, _, _, rfl, rfl, _, rfl, ?_⟩
        rw [ep]
        have len : ((List.range j).filter fun k => decide (0 ≤ pa b f' k ∧ pa b f' k < 32)).length ≤ j := Nat.le_trans (List.length_filter_le _ _) (by rw [List.length_range]; exact Nat.le_refl _)
        by_cases c1 : 0 ≤ pa b f' j
        · refine iteB (decide_eq_true c1) ?_
          refine ⟨_, _, rfl, rfl, _, rfl, ?_⟩
          by_cases c2 : pa b f' j < 32
          · refine iteB (decide_eq_true (by rw [ep]; exact c2)) ?_
            refine ⟨_, rfl, _, rfl, _, rfl, _, _, rfl, rfl, .inl ml, _, _, rfl, rfl, _, eD, by rw [List.length_map]; exact szl (by omega), same_mut s6 nD, ?_⟩
            rw [upd_same]
            show some (HO.lst (_ ++ [V.int (b + (0 + (j : Int)) * f')])) = _
            rw [ep]
            simp [c1, c2]
          · refine iteB0 (decide_eq_false (by rw [ep]; exact c2)) ?_
            refine ⟨s6, ?_⟩
            rw [eD]
            simp [c2]
        · refine iteB0 (decide_eq_false c1) ?_
          refine ⟨_, rfl, iteB0 rfl ?_⟩
          refine ⟨s6, ?_⟩
          rw [eD]
          simp [c1]
      · obtain ⟨s6, eD⟩ := h
        obtain ⟨m, m1, m2, m3⟩ := okd ((32 : Int)).toNat
        rw [m2] at eD
        have m1 : m ≤ 32 := m1
        have mp : 1 ≤ m := by
          cases m with
          | zero =>
            have z : 0 ∈ (List.range ((32 : Int)).toNat).filter (fun k => decide (0 ≤ pa b f' k ∧ pa b f' k < 32)) := List.mem_filter.mpr ⟨by decide, decide_eq_true (by unfold pa; show 0 ≤ b + (0 : Int) * f' ∧ b + (0 : Int) * f' < 32; rw [Int.zero_mul]; omega)⟩
            rw [m2] at z
            cases z
          | succ m => omega
        have hR6 := hR5.same s6
        have hS6 := hS5.imm (Imm.same s6)
        clear okd m2 hR5 hS5
        have ll : ((List.range m).map fun k => V.int (pa b f' k)).length = m := by rw [List.length_map, List.length_range]
        refine ⟨_, rfl, _, rfl, _, rfl, _, _, rfl, .inl (sql eD), ?_⟩
        refine ⟨r, _, rfl, hR6, by rw [ll]; omega, fun x H7 x0 x1 s7 hR7 => ?_⟩
        rw [ll] at x1
        have eD7 := s7 _ _ hDr eD
        have hS7 := hS6.imm (Imm.sameX s7 hR6.at_)
        clear eD s6 s7 hR6 hS6
        refine ⟨_, _, rfl, rfl, _, rfl, _, _, rfl, sql eD7, fun L nL => ?_⟩
        obtain ⟨n, hn, n1, n2⟩ : ∃ n : Nat, 1 + x = (n : Int) ∧ 1 ≤ n ∧ n ≤ m := ⟨(1 + x).toNat, by omega, by omega, by omega⟩
        rw [cut_to (by omega), hn, Int.toNat_natCast, ← List.map_take, List.take_range, Nat.min_eq_left n2, show ((List.range n).map fun k => V.int (pa b f' k)) = ((List.range n).map (pa b f')).map V.int by rw [List.map_map]; rfl]
        have eL : (upd H7 L (.lst (((List.range n).map (pa b f')).map V.int))) L = some (.lst (((List.range n).map (pa b f')).map V.int)) := upd_same
        have nLr := hR7.nr nL
        have hR8 := hR7.same (same_upd (o := .lst (((List.range n).map (pa b f')).map V.int)) nL)
        have hS8 := hS7.imm (Imm.same (same_upd (o := .lst (((List.range n).map (pa b f')).map V.int)) nL))
        have lps : ((List.range n).map (pa b f')).length = n := by rw [List.length_map, List.length_range]
        have pps : ∀ k p, ((List.range n).map (pa b f'))[k]? = some p → p = pa b f' k := fun k p hk => by
          rw [List.getElem?_map] at hk
          cases e : (List.range n)[k]? with
          | none => rw [e] at hk; cases hk
          | some j =>
            rw [e] at hk
            have := List.getElem?_eq_some_iff.mp e
            obtain ⟨h1, h2⟩ := this
            rw [List.getElem_range] at h2
            rw [← Option.some.inj hk, ← h2]
        have rps : ∀ p ∈ (List.range n).map (pa b f'), 0 ≤ p ∧ p < 32 := fun p hp => by
          obtain ⟨k, hk, rfl⟩ := List.mem_map.mp hp
          exact of_decide_eq_true (m3 k (by have := List.mem_range.mp hk; omega))
        have laps : ((List.range n).map (pa b f')).getLast? = some (pa b f' (n - 1)) := by
          rw [List.getLast?_eq_getElem?, lps, List.getElem?_map, List.getElem?_eq_getElem (by rw [List.length_range]; omega), List.getElem_range]
          rfl
        generalize upd H7 L (.lst (((List.range n).map (pa b f')).map V.int)) = H8 at eL hR8 hS8 ⊢
        generalize (List.range n).map (pa b f') = ps at eL lps pps rps laps
        clear ll m3 eD7 hR7 hS7 hDr
        have n32 : n ≤ 32 := by omega
        -- how many times
        refine ⟨_, rfl, r, 3, rfl, hR8, by decide, fun y H9 y0 y1 s9 hR9 => ?_⟩
        have eL9 := s9 _ _ nLr eL
        have hS9 := hS8.imm (Imm.sameX s9 hR8.at_)
        clear eL hR8 hS8 s9
        have t1 : 1 ≤ 1 + y := by omega
        have t3 : 1 + y ≤ 3 := by omega
        refine ⟨_, _, rfl, rfl, ?_⟩
        refine ⟨_, rfl, sz_2, fun g8 n8 => ?_⟩
        have s10 : Same H9 (upd H9 g8 (.tup [.str "stride", .int (1 + y)])) := same_upd n8
        have e10 : SqT K (upd H9 g8 (.tup [.str "stride", .int (1 + y)])) g8 [.str "stride", .int (1 + y)] := sqt upd_same
        have hR10 := hR9.same s10
        have eL10 := s10 _ _ eL9
        have hS10 := hS9.imm (Imm.same s10)
        generalize upd H9 g8 (.tup [.str "stride", .int (1 + y)]) = H10 at e10 hR10 eL10 hS10 ⊢
        clear hR9 eL9 hS9
        refine ⟨fun σ' H11 => ∃ (gv : V) (g : G) (t : Int), (1 ≤ t ∧ t ≤ 3) ∧ σ' = [some (.ref a), some (.ref r), some (.int (0 + (i : Int))), some (.ref so), some (.int f'), some (.int b), some (.ref L), some (.int t), some gv, y9, y10, y11, y12, y13, y14, y15, none, none] ∧ Row K H11 r ∧ IsSet K H11 so s ∧ H11 L = some (.lst (ps.map V.int)) ∧ IsG K H11 g gv ∧ StrG t g, ?_, fun σ' H11 h => ?_⟩
        · refine ⟨_, rfl, r, 3, rfl, hR10, by decide, fun z H11 z0 z1 s11 hR11 => ?_⟩
          have im11 := Imm.sameX s11 hR10.at_
          have eL11 := s11 _ _ nLr eL10
          refine ⟨rfl, _, rfl, ?_⟩
          refine ite2 (fun c => ?_) (fun c => ?_)
          · refine ⟨sz_1, fun p1 n1 => ?_⟩
            refine ⟨_, rfl, sz_3, fun p2 n2 => ?_⟩
            have s12 : Same H11 (upd (upd H11 p1 (.tup [.str "none"])) p2 (.tup [.str "both", .ref p1, .ref g8])) := (same_upd n1).trans (same_upd n2)
            exact ⟨.ref p2, .both (.leaf "none" []) (.leaf "stride" [1 + y]), 1 + y, ⟨t1, t3⟩, rfl, hR11.same s12, (hS10.imm im11).imm (Imm.same s12), s12 _ _ eL11, ⟨p2, .ref p1, .ref g8, rfl, sqt upd_same, ⟨p1, rfl, sqt (same_upd n2 _ _ upd_same)⟩, ⟨g8, rfl, same_t s12 (im11.t e10)⟩⟩, .two⟩
          · exact ⟨.ref g8, .leaf "stride" [1 + y], 1 + y, ⟨t1, t3⟩, rfl, hR11, hS10.imm im11, eL11, ⟨g8, rfl, im11.t e10⟩, .one⟩
        · clear t1 t3 y0 y1
          obtain ⟨gv, g, t, ⟨t1, t3⟩, rfl, hR, hSo, eL, hG, sG⟩ := h
          have gg := good_StrG sG t1 t3
          have hpp : ∀ k d, (rds ps)[k]? = some d → d.1 = pa b f' k := fun k d hk => by
            unfold rds at hk
            rw [List.getElem?_map] at hk
            cases e : ps[k]? with
            | none => rw [e] at hk; cases hk
            | some p =>
              rw [e] at hk
              rw [← Option.some.inj hk]
              exact pps k p e
          have gds : ∀ d ∈ rds ps, Deed.Good ((s.mem.length : Nat) : Int) d := fun d hd => by
            obtain ⟨p, hp, rfl⟩ := List.mem_map.mp hd
            have := rps p hp
            show 0 ≤ p ∧ p < ((s.mem.length : Nat) : Int)
            omega
          have lrd : (rds ps).length = n := by unfold rds; rw [List.length_map, lps]
          -- run
          refine ⟨_, rfl, _, rfl, _, rfl, L, rfl, ⟨_, sql eL⟩, fun M nM => ?_⟩
          refine lc_list (xs := ps.map V.int) (fun j H12 => Same H11 H12 ∧ ∃ as : List Addr, H12 M = some (.lst (as.map V.ref)) ∧ PrD K H12 as (rds (ps.take j))) ⟨same_upd nM, [], upd_same, .nil⟩ (fun j H12 _ h => sql (h.1 _ _ eL)) (fun j y H12 hj h => ?_) (fun H12 h => ?_)
          · obtain ⟨s12, as, eM, pd⟩ := h
            obtain ⟨p, rfl, ep, tk⟩ := at_ints hj
            have hj' := (List.getElem?_eq_some_iff.mp ep).1
            have las : as.length = (rds (ps.take j)).length := Paired.length pd
            have lrj : (rds (ps.take j)).length ≤ j := by unfold rds; rw [List.length_map, List.length_take]; omega
            refine ⟨rfl, _, rfl, sz_2, fun u nu => ?_⟩
            have s13 : Same H12 (upd H12 u (.tup [.str "read", .int p])) := same_upd nu
            have eM13 := s13 _ _ eM
            refine ⟨_, eM13, by rw [List.length_map]; exact szl (by omega), same_mut (s12.trans s13) nM, as ++ [u], by rw [upd_same, List.map_append]; rfl, ?_⟩
            have im : Imm (upd H12 u (.tup [.str "read", .int p])) (upd (upd H12 u (.tup [.str "read", .int p])) M (.lst (as.map V.ref ++ [.ref u]))) := Imm.upd ⟨_, eM13⟩
            have hu : IsDeed K (upd H12 u (.tup [.str "read", .int p])) u (p, none) := sqt upd_same
            rw [tk, show rds (ps.take j ++ [p]) = rds (ps.take j) ++ [(p, none)] from List.map_append]
            exact Paired.snoc ((pd.imm (Imm.same s13)).imm im) (hu.imm im)
          · obtain ⟨s12, as, eM, pd⟩ := h
            rw [show ps.take (ps.map V.int).length = ps by rw [List.length_map]; exact List.take_length] at pd
            have eL12 := s12 _ _ eL
            refine ⟨so, M, gv, s, g, as, rds ps, rfl, hSo.imm (Imm.same s12), gS, hG.same s12, gg, sql eM, pd, gds, by omega, fun t9 aA cT kT H13 s13 nA e1 eA eC eK => ?_⟩
            have hS13 := (hSo.imm (Imm.same s12)).imm (Imm.same s13)
            have hR13 := (hR.same s12).same s13
            have eL13 := s13 _ _ eL12
            have st := runTo_S gS hf0 t1 t3 sG gds hpp (rds ps).length (Nat.le_refl _)
            have ba := runTo_bal gS gg gds (rds ps).length (Nat.le_refl _)
            have pl := (runTo_plain gS gg gds (rds ps).length (Nat.le_refl _)).a
            rw [List.take_length] at pl
            have pl2 : plainP s.mem (rds ps) = ([] ++ ps.map (fun p => s.mem.getD p.toNat 0), s.mem) := plain_rds s.mem ps ([], s.mem)
            rw [pl2] at pl
            have pa1 : (runTo s g (rds ps) (rds ps).length).answers = ps.map (fun p => s.mem.getD p.toNat 0) := congrArg Prod.fst pl
            have pa2 : (runTo s g (rds ps) (rds ps).length).cells = s.mem := congrArg Prod.snd pl
            rw [pa1] at eA
            rw [pa2] at eC
            refine ⟨t9, _, rfl, e1, rfl, _, _, rfl, _, _, rfl, _, _, rfl, rfl, ?_⟩
            clear e1 pl pl2 pa1 pa2 hSo hR eL eL12 hG s12 s13 nA eM pd
            have lpm : (((ps.map V.int).length : Nat) : Int) = (n : Int) := by rw [List.length_map, lps]
            -- how many misses, and the others
            refine ⟨fun σ' H14 => σ' = [some (.ref a), some (.ref r), some (.int (0 + (i : Int))), some (.ref so), some (.int f'), some (.int b), some (.ref L), some (.int t), some gv, some (.ref aA), some (.ref cT), some (.ref kT), some (.int ((min n (t.toNat + 1) : Nat) : Int)), y13, y14, y15, none, none] ∧ H13 = H14, ?_, fun σ' H14 h => ?_⟩
            · refine ⟨_, rfl, _, _, rfl, .inl (sql eL13), _, rfl, _, _, rfl, rfl, _, _, rfl, ?_⟩
              have hmi : (if t + 1 < (((ps.map V.int).length : Nat) : Int) then t + 1 else (((ps.map V.int).length : Nat) : Int)) = ((min n (t.toNat + 1) : Nat) : Int) := by
                rw [lpm]
                split <;> omega
              exact ⟨by rw [← hmi]; rfl, rfl⟩
            obtain ⟨rfl, rfl⟩ := h
            refine ⟨fun σ' H14 => σ' = [some (.ref a), some (.ref r), some (.int (0 + (i : Int))), some (.ref so), some (.int f'), some (.int b), some (.ref L), some (.int t), some gv, some (.ref aA), some (.ref cT), some (.ref kT), some (.int ((min n (t.toNat + 1) : Nat) : Int)), some (.int ((n - min n (t.toNat + 1) : Nat) : Int)), y14, y15, none, none] ∧ H13 = H14, ?_, fun σ' H14 h => ?_⟩
            · refine ⟨_, rfl, _, _, rfl, .inl (sql eL13), _, rfl, _, _, rfl, rfl, ?_⟩
              have hre : (((ps.map V.int).length : Nat) : Int) - ((min n (t.toNat + 1) : Nat) : Int) = ((n - min n (t.toNat + 1) : Nat) : Int) := by
                rw [lpm]
                omega
              exact ⟨by rw [← hre]; rfl, rfl⟩
            obtain ⟨rfl, rfl⟩ := h
            -- what is idle
            refine ⟨fun σ' H14 => σ' = [some (.ref a), some (.ref r), some (.int (0 + (i : Int))), some (.ref so), some (.int f'), some (.int b), some (.ref L), some (.int t), some gv, some (.ref aA), some (.ref cT), some (.ref kT), some (.int ((min n (t.toNat + 1) : Nat) : Int)), some (.int ((n - min n (t.toNat + 1) : Nat) : Int)), some (.int (if t < (n : Int) ∧ 0 ≤ pa b f' n ∧ pa b f' n < 32 then 1 else 0)), y15, none, none] ∧ H13 = H14, ?_, fun σ' H14 h => ?_⟩
            · have hpn : pa b f' (n - 1) + f' = pa b f' n := by
                have := pa_succ b f' (n - 1)
                rw [show n - 1 + 1 = n by omega] at this
                exact this.symm
              refine ⟨_, rfl, _, _, rfl, .inl (sql eL13), _, rfl, _, _, rfl, rfl, _, rfl, ?_⟩
              by_cases d1 : t < (n : Int)
              · refine iteB (decide_eq_true (by rw [lpm]; exact d1)) ?_
                refine ⟨_, rfl, _, rfl, _, _, _, _, rfl, rfl, sql eL13, at_last laps, _, rfl, _, _, rfl, rfl, _, _, rfl, rfl, _, rfl, ?_⟩
                by_cases d2 : 0 ≤ pa b f' n
                · refine iteB (decide_eq_true (by rw [hpn]; exact d2)) ?_
                  refine ⟨_, _, rfl, rfl, .inr ⟨_, rfl, ?_⟩⟩
                  have e3 : (if (decide (pa b f' (n - 1) + f' < 32)) = true then (1 : Int) else 0) = (if t < (n : Int) ∧ 0 ≤ pa b f' n ∧ pa b f' n < 32 then 1 else 0) := by
                    rw [hpn]
                    by_cases d3 : pa b f' n < 32
                    · rw [if_pos (decide_eq_true d3), if_pos ⟨d1, d2, d3⟩]
                    · rw [if_neg (fun z => d3 (of_decide_eq_true z)), if_neg (fun z => d3 z.2.2)]
                  exact ⟨by rw [← e3]; rfl, rfl⟩
                · refine iteB0 (decide_eq_false (by rw [hpn]; exact d2)) ?_
                  refine .inr ⟨_, rfl, ?_⟩
                  have e3 : (if false = true then (1 : Int) else 0) = (if t < (n : Int) ∧ 0 ≤ pa b f' n ∧ pa b f' n < 32 then 1 else 0) := by
                    rw [if_neg (fun z : t < (n : Int) ∧ 0 ≤ pa b f' n ∧ pa b f' n < 32 => d2 z.2.1)]
                    rfl
                  exact ⟨by rw [← e3]; rfl, rfl⟩
              · refine iteB0 (decide_eq_false (by rw [lpm]; exact d1)) ?_
                refine .inr ⟨_, rfl, ?_⟩
                have e3 : (if false = true then (1 : Int) else 0) = (if t < (n : Int) ∧ 0 ≤ pa b f' n ∧ pa b f' n < 32 then 1 else 0) := by
                  rw [if_neg (fun z : t < (n : Int) ∧ 0 ≤ pa b f' n ∧ pa b f' n < 32 => d1 z.1)]
                  rfl
                exact ⟨by rw [← e3]; rfl, rfl⟩
            obtain ⟨rfl, rfl⟩ := h
            obtain ⟨mm, k1, k2⟩ := hS13
            -- hits and lates
            refine ⟨fun σ' H14 => ∃ hA : Addr, σ' = [some (.ref a), some (.ref r), some (.int (0 + (i : Int))), some (.ref so), some (.int f'), some (.int b), some (.ref L), some (.int t), some gv, some (.ref aA), some (.ref cT), some (.ref kT), some (.int ((min n (t.toNat + 1) : Nat) : Int)), some (.int ((n - min n (t.toNat + 1) : Nat) : Int)), some (.int (if t < (n : Int) ∧ 0 ≤ pa b f' n ∧ pa b f' n < 32 then 1 else 0)), some (.ref hA), none, none] ∧ Same H13 H14 ∧ H14 hA = some (.lst [.int (if s.lt = 0 then ((n - min n (t.toNat + 1) : Nat) : Int) else 0), .int (if s.lt = 0 then 0 else ((n - min n (t.toNat + 1) : Nat) : Int))]), ?_, fun σ' H14 h => ?_⟩
            · refine ⟨_, rfl, _, _, _, _, rfl, rfl, k1, atI_nat (j := 2) rfl, rfl, _, rfl, ?_⟩
              by_cases d1 : s.lt = 0
              · refine iteB (decide_eq_true (congrArg V.int d1)) ?_
                refine ⟨_, rfl, sz_2, fun hA nh => ⟨hA, rfl, same_upd nh, ?_⟩⟩
                rw [if_pos d1, if_pos d1]
                exact upd_same
              · refine iteB0 (decide_eq_false fun z => d1 (V.int.inj z)) ?_
                refine ⟨_, rfl, sz_2, fun hA nh => ⟨hA, rfl, same_upd nh, ?_⟩⟩
                rw [if_neg d1, if_neg d1]
                exact upd_same
            obtain ⟨hA, rfl, s14, eH⟩ := h
            have stm := st.m
            have stf := st.f1
            have stl := st.l1
            have stw := st.w
            have stk := st.wy
            have std := st.fl
            rw [lrd] at stm stf stl stw stk std ba eK
            have ba1 := ba.a
            have ba2 := ba.b
            have hcs : countsP (runTo s g (rds ps) n).rows (runTo s g (rds ps) n).st = [(if s.lt = 0 then ((n - min n (t.toNat + 1) : Nat) : Int) else 0), (if s.lt = 0 then 0 else ((n - min n (t.toNat + 1) : Nat) : Int)), ((min n (t.toNat + 1) : Nat) : Int), ((n - min n (t.toNat + 1) : Nat) : Int) + (if t < (n : Int) ∧ 0 ≤ pa b f' n ∧ pa b f' n < 32 then 1 else 0), ((n - min n (t.toNat + 1) : Nat) : Int), 0, (if t < (n : Int) ∧ 0 ≤ pa b f' n ∧ pa b f' n < 32 then 1 else 0)] := by
              have stf : cR "first" (runTo s g (rds ps) n).rows = if s.lt = 0 then n - min n (t.toNat + 1) else 0 := stf
              have stl : cR "late" (runTo s g (rds ps) n).rows = if s.lt = 0 then 0 else n - min n (t.toNat + 1) := stl
              have stk : (runTo s g (rds ps) n).st.2.1 = if t < (n : Int) ∧ 0 ≤ pa b f' n ∧ pa b f' n < ((s.mem.length : Nat) : Int) then [(pa b f' n, s.lt)] else [] := stk
              rw [ml] at stk
              have stk : (runTo s g (rds ps) n).st.2.1 = if t < (n : Int) ∧ 0 ≤ pa b f' n ∧ pa b f' n < 32 then [(pa b f' n, s.lt)] else [] := stk
              have hid : ((idleN (runTo s g (rds ps) n).st : Nat) : Int) = (if t < (n : Int) ∧ 0 ≤ pa b f' n ∧ pa b f' n < 32 then 1 else 0) := by
                have z : idleN (runTo s g (rds ps) n).st = fN (runTo s g (rds ps) n).st.1 + (runTo s g (rds ps) n).st.2.1.length := rfl
                rw [z, std, stk]
                split <;> rfl
              unfold countsP
              rw [cnt1, cnt1, cnt1, cnt1, cnt2 (by decide), cnt2 (by decide), hid]
              have z1 : cR "hit" (runTo s g (rds ps) n).rows = 0 := by
                by_cases d1 : s.lt = 0
                · rw [if_pos d1] at stf stl
                  omega
                · rw [if_neg d1] at stf stl
                  omega
              have z2 : ((cR "start" (runTo s g (rds ps) n).rows : Nat) : Int) = ((n - min n (t.toNat + 1) : Nat) : Int) + (if t < (n : Int) ∧ 0 ≤ pa b f' n ∧ pa b f' n < 32 then 1 else 0) := by
                rw [← hid]
                by_cases d1 : s.lt = 0
                · rw [if_pos d1] at stf stl
                  omega
                · rw [if_neg d1] at stf stl
                  omega
              rw [z1, z2, stm, stw, stf, stl]
              by_cases d1 : s.lt = 0
              · rw [if_pos d1, if_pos d1, if_pos d1, if_pos d1]
                simp
              · rw [if_neg d1, if_neg d1, if_neg d1, if_neg d1]
                simp
            rw [hcs] at eK
            generalize ((min n (t.toNat + 1) : Nat) : Int) = mi at eK eH ⊢
            generalize ((n - min n (t.toNat + 1) : Nat) : Int) = re at eK eH ⊢
            generalize (if t < (n : Int) ∧ 0 ≤ pa b f' n ∧ pa b f' n < 32 then (1 : Int) else 0) = idl at eK ⊢
            generalize (if s.lt = 0 then re else 0) = h0 at eK eH ⊢
            generalize (if s.lt = 0 then 0 else re) = h1 at eK eH ⊢
            have eK14 := same_t s14 eK
            have sH : SqL K H14 hA [.int h0, .int h1] := sql eH
            refine ⟨_, rfl, _, rfl, _, _, _, _, rfl, rfl, sH, atI_nat (j := 0) rfl, _, rfl, _, _, _, _, rfl, rfl, sH, atI_nat (j := 1) rfl, _, rfl, _, rfl, _, rfl, _, _, rfl, rfl, _, rfl, _, rfl, sz_7, fun q7 nq7 => ?_⟩
            refine ⟨.tuple (([h0, h1, mi, re + idl, re, 0, idl] : List Int).map .int), .tuple (([h0, h1, mi, re + idl, re, 0, idl] : List Int).map .int), dp_intsT (same_t (same_upd nq7) eK14), dp_intsT (sqt upd_same), shp_lay (shp_intsT _) (by decide), shp_lay (shp_intsT _) (by decide), ?_⟩
            rw [shp_refl (shp_intsT _)]
            refine ⟨_, rfl, iteB0 (b := !true) rfl ?_⟩
            have s15 := s14.trans (same_upd (o := .tup [.int h0, .int h1, .int mi, .int (re + idl), .int re, .int 0, .int idl]) nq7)
            have s15 : Same H13 (upd H14 q7 (.tup [.int h0, .int h1, .int mi, .int (re + idl), .int re, .int 0, .int idl])) := s15
            generalize upd H14 q7 (.tup [.int h0, .int h1, .int mi, .int (re + idl), .int re, .int 0, .int idl]) = H15 at s15 ⊢
            have eL15 := s15 _ _ eL13
            have k1' := same_t s15 k1
            have k2' := same_t s15 k2
            have eA15 := s15 _ _ eA
            have eC15 := same_t s15 eC
            refine ⟨_, rfl, _, rfl, L, rfl, ⟨_, sql eL15⟩, fun M2 nM2 => ?_⟩
            refine lc_list (xs := ps.map V.int) (fun j H16 => Same H15 H16 ∧ H16 M2 = some (.lst (((ps.map (fun p => s.mem.getD p.toNat 0)).take j).map V.int))) ⟨same_upd nM2, upd_same⟩ (fun j H16 _ h => sql (h.1 _ _ eL15)) (fun j y H16 hj h => ?_) (fun H16 h => ?_)
            · obtain ⟨s16, eM⟩ := h
              obtain ⟨p, rfl, ep, tk⟩ := at_ints hj
              have rp := rps p (List.mem_of_getElem? ep)
              have hat : atI (s.mem.map V.int) p = some (.int (s.mem.getD p.toNat 0)) := at_ps (i := p.toNat) (by omega) (by omega)
              refine ⟨rfl, _, rfl, _, _, _, _, rfl, rfl, same_t s16 k1', atI_nat (j := 0) rfl, _, rfl, _, _, _, _, rfl, rfl, same_t s16 k2', hat, _, eM, by rw [List.length_map, List.length_take, List.length_map]; exact szl (by omega), same_mut s16 nM2, ?_⟩
              rw [upd_same, List.take_add_one, List.getElem?_map, ep, List.map_append]
              rfl
            · obtain ⟨s16, eM⟩ := h
              rw [show (ps.map (fun p => s.mem.getD p.toNat 0)).take (ps.map V.int).length = ps.map (fun p => s.mem.getD p.toNat 0) from List.take_of_length_le (by rw [List.length_map, List.length_map]; exact Nat.le_refl _)] at eM
              refine ⟨.list ((ps.map (fun p => s.mem.getD p.toNat 0)).map .int), .list ((ps.map (fun p => s.mem.getD p.toNat 0)).map .int), dp_ints (sql (s16 _ _ eA15)), dp_ints (sql eM), lay_ints _, lay_ints _, ?_⟩
              rw [eqv_ints, decide_eq_true rfl]
              refine ⟨_, rfl, iteB0 (b := !true) rfl ?_⟩
              refine ⟨_, rfl, _, rfl, _, _, _, _, rfl, rfl, same_t s16 k1', atI_nat (j := 0) rfl, ?_⟩
              refine ⟨.tuple (s.mem.map .int), .tuple (s.mem.map .int), dp_intsT (same_t s16 eC15), dp_intsT (same_t s16 k2'), shp_lay (shp_intsT _) (by decide), shp_lay (shp_intsT _) (by decide), ?_⟩
              rw [shp_refl (shp_intsT _)]
              refine ⟨_, rfl, iteB0 (b := !true) rfl ?_⟩
              exact ⟨_, _, _, _, _, _, _, _, _, _, _, _, _, _, rfl, (hR13.same s15).same s16⟩
  · obtain ⟨y2, y3, y4, y5, y6, y7, y8, y9, y10, y11, y12, y13, y14, y15, rfl, _⟩ := h
    exact q _
end
end St

namespace St
open PySem PySem.Spec PyProof.Rows L2
theorem all_mk {l : PySem.W.OpenLaw} {w : World} {K : PySem.W.Frag} {h : Heap} {mg : Str → Option Value} {fa f0 f1 f2 f3 f4 f5 f6 f7 f8 f9 f10 f11 f12 f13 f14 f15 f16 f17 f18 f19 f20 d0 d1 : Addr} (X : K.In h) (G : h.Ns mainGlobals mg) (hfa : mg "law" = some (.ref fa))
    {od0 an0 od1 an1 od2 an2 od3 an3 od4 an4 od5 an5 od6 an6 od7 an7 od8 an8 od9 an9 od10 an10 od11 an11 od12 an12 od13 an13 od14 an14 od15 an15 od16 an16 od17 an17 od18 an18 od19 an19 od20 an20 : Option Addr} {sl0 sl1 sl2 sl3 sl4 sl5 sl6 sl7 sl8 sl9 sl10 sl11 sl12 sl13 sl14 sl15 sl16 sl17 sl18 sl19 sl20 : Array (Option Value)} {oc0 kV0 dc0 pm0 cd0 ct0 oc1 kV1 dc1 pm1 cd1 ct1 oc2 kV2 dc2 pm2 cd2 ct2 oc3 kV3 dc3 pm3 cd3 ct3 oc4 kV4 dc4 pm4 cd4 ct4 oc5 kV5 dc5 pm5 cd5 ct5 oc6 kV6 dc6 pm6 cd6 ct6 oc7 kV7 dc7 pm7 cd7 ct7 oc8 kV8 dc8 pm8 cd8 ct8 oc9 kV9 dc9 pm9 cd9 ct9 oc10 kV10 dc10 pm10 cd10 ct10 oc11 kV11 dc11 pm11 cd11 ct11 oc12 kV12 dc12 pm12 cd12 ct12 oc13 kV13 dc13 pm13 cd13 ct13 oc14 kV14 dc14 pm14 cd14 ct14 oc15 kV15 dc15 pm15 cd15 ct15 oc16 kV16 dc16 pm16 cd16 ct16 oc17 kV17 dc17 pm17 cd17 ct17 oc18 kV18 dc18 pm18 cd18 ct18 oc19 kV19 dc19 pm19 cd19 ct19 oc20 kV20 dc20 pm20 cd20 ct20 : Value} {es0 es1 : Array DictEntry} {en0 en1 : Nat} {ti0 ti1 ti2 ti3 ti4 ti5 ti6 : Tok}
    {C0 C1 fm0 fm1 fm2 fm3 fm4 : Addr} {odm0 anm0 odm1 anm1 odm2 anm2 odm3 anm3 odm4 anm4 : Option Addr} {slm0 slm1 slm2 slm3 slm4 : Array (Option Value)} {ocm0 kVm0 dcm0 pmm0 cdm0 ctm0 ocm1 kVm1 dcm1 pmm1 cdm1 ctm1 ocm2 kVm2 dcm2 pmm2 cdm2 ctm2 ocm3 kVm3 dcm3 pmm3 cdm3 ctm3 ocm4 kVm4 dcm4 pmm4 cdm4 ctm4 : Value}
    (a0 : PySem.W.nsIn K mainGlobals "laid" = some (some (.ref f0))) (l0 : K.lookup f0 = some ⟨oc0, od0, .func (PySem.W.fnOf "laid" "laid" (defArgs s_laid) (defBody s_laid) (defScope s_laid) .none kV0 dc0 pm0 an0 cd0 ct0), sl0⟩) (c0 : PySem.W.codeIn K cd0 "laid" = true) (k0 : PySem.W.keepIn K (.ref f0) = true)
    (a1 : PySem.W.nsIn K mainGlobals "come" = some (some (.ref f1))) (l1 : K.lookup f1 = some ⟨oc1, od1, .func (PySem.W.fnOf "come" "come" (defArgs s_come) (defBody s_come) (defScope s_come) .none kV1 dc1 pm1 an1 cd1 ct1), sl1⟩) (c1 : PySem.W.codeIn K cd1 "come" = true) (k1 : PySem.W.keepIn K (.ref f1) = true)
    (a2 : PySem.W.nsIn K mainGlobals "asked" = some (some (.ref f2))) (l2 : K.lookup f2 = some ⟨oc2, od2, .func (PySem.W.fnOf "asked" "asked" (defArgs s_asked) (defBody s_asked) (defScope s_asked) .none kV2 dc2 pm2 an2 cd2 ct2), sl2⟩) (c2 : PySem.W.codeIn K cd2 "asked" = true) (k2 : PySem.W.keepIn K (.ref f2) = true)
    (a3 : PySem.W.nsIn K mainGlobals "started" = some (some (.ref f3))) (l3 : K.lookup f3 = some ⟨oc3, od3, .func (PySem.W.fnOf "started" "started" (defArgs s_started) (defBody s_started) (defScope s_started) .none kV3 dc3 pm3 an3 cd3 ct3), sl3⟩) (c3 : PySem.W.codeIn K cd3 "started" = true) (k3 : PySem.W.keepIn K (.ref f3) = true)
    (a4 : PySem.W.nsIn K mainGlobals "strided" = some (some (.ref f4))) (l4 : K.lookup f4 = some ⟨oc4, od4, .func (PySem.W.fnOf "strided" "strided" (defArgs s_strided) (defBody s_strided) (defScope s_strided) .none kV4 dc4 pm4 an4 cd4 ct4), sl4⟩) (c4 : PySem.W.codeIn K cd4 "strided" = true) (k4 : PySem.W.keepIn K (.ref f4) = true)
    (a5 : PySem.W.nsIn K mainGlobals "paired" = some (some (.ref f5))) (l5 : K.lookup f5 = some ⟨oc5, od5, .func (PySem.W.fnOf "paired" "paired" (defArgs s_paired) (defBody s_paired) (defScope s_paired) .none kV5 dc5 pm5 an5 cd5 ct5), sl5⟩) (c5 : PySem.W.codeIn K cd5 "paired" = true) (k5 : PySem.W.keepIn K (.ref f5) = true)
    (a6 : PySem.W.nsIn K mainGlobals "stepped" = some (some (.ref f6))) (l6 : K.lookup f6 = some ⟨oc6, od6, .func (PySem.W.fnOf "stepped" "stepped" (defArgs s_stepped) (defBody s_stepped) (defScope s_stepped) .none kV6 dc6 pm6 an6 cd6 ct6), sl6⟩) (c6 : PySem.W.codeIn K cd6 "stepped" = true) (k6 : PySem.W.keepIn K (.ref f6) = true)
    (a7 : PySem.W.nsIn K mainGlobals "gone_on" = some (some (.ref f7))) (l7 : K.lookup f7 = some ⟨oc7, od7, .func (PySem.W.fnOf "gone_on" "gone_on" (defArgs s_gone_on) (defBody s_gone_on) (defScope s_gone_on) .none kV7 dc7 pm7 an7 cd7 ct7), sl7⟩) (c7 : PySem.W.codeIn K cd7 "gone_on" = true) (k7 : PySem.W.keepIn K (.ref f7) = true)
    (a8 : PySem.W.nsIn K mainGlobals "first_state" = some (some (.ref f8))) (l8 : K.lookup f8 = some ⟨oc8, od8, .func (PySem.W.fnOf "first_state" "first_state" (defArgs s_first_state) (defBody s_first_state) (defScope s_first_state) .none kV8 dc8 pm8 an8 cd8 ct8), sl8⟩) (c8 : PySem.W.codeIn K cd8 "first_state" = true) (k8 : PySem.W.keepIn K (.ref f8) = true)
    (a9 : PySem.W.nsIn K mainGlobals "begun" = some (some (.ref f9))) (l9 : K.lookup f9 = some ⟨oc9, od9, .func (PySem.W.fnOf "begun" "begun" (defArgs s_begun) (defBody s_begun) (defScope s_begun) .none kV9 dc9 pm9 an9 cd9 ct9), sl9⟩) (c9 : PySem.W.codeIn K cd9 "begun" = true) (k9 : PySem.W.keepIn K (.ref f9) = true)
    (a10 : PySem.W.nsIn K mainGlobals "is_guesser" = some (some (.ref f10))) (l10 : K.lookup f10 = some ⟨oc10, od10, .func (PySem.W.fnOf "is_guesser" "is_guesser" (defArgs s_is_guesser) (defBody s_is_guesser) (defScope s_is_guesser) .none kV10 dc10 pm10 an10 cd10 ct10), sl10⟩) (c10 : PySem.W.codeIn K cd10 "is_guesser" = true) (k10 : PySem.W.keepIn K (.ref f10) = true)
    (a11 : PySem.W.nsIn K mainGlobals "need_guesser" = some (some (.ref f11))) (l11 : K.lookup f11 = some ⟨oc11, od11, .func (PySem.W.fnOf "need_guesser" "need_guesser" (defArgs s_need_guesser) (defBody s_need_guesser) (defScope s_need_guesser) .none kV11 dc11 pm11 an11 cd11 ct11), sl11⟩) (c11 : PySem.W.codeIn K cd11 "need_guesser" = true) (k11 : PySem.W.keepIn K (.ref f11) = true)
    (a12 : PySem.W.nsIn K mainGlobals "need_setting" = some (some (.ref f12))) (l12 : K.lookup f12 = some ⟨oc12, od12, .func (PySem.W.fnOf "need_setting" "need_setting" (defArgs s_need_setting) (defBody s_need_setting) (defScope s_need_setting) .none kV12 dc12 pm12 an12 cd12 ct12), sl12⟩) (c12 : PySem.W.codeIn K cd12 "need_setting" = true) (k12 : PySem.W.keepIn K (.ref f12) = true)
    (a13 : PySem.W.nsIn K mainGlobals "is_deed" = some (some (.ref f13))) (l13 : K.lookup f13 = some ⟨oc13, od13, .func (PySem.W.fnOf "is_deed" "is_deed" (defArgs s_is_deed) (defBody s_is_deed) (defScope s_is_deed) .none kV13 dc13 pm13 an13 cd13 ct13), sl13⟩) (c13 : PySem.W.codeIn K cd13 "is_deed" = true) (k13 : PySem.W.keepIn K (.ref f13) = true)
    (a14 : PySem.W.nsIn K mainGlobals "need_row" = some (some (.ref f14))) (l14 : K.lookup f14 = some ⟨oc14, od14, .func (PySem.W.fnOf "need_row" "need_row" (defArgs s_need_row) (defBody s_need_row) (defScope s_need_row) .none kV14 dc14 pm14 an14 cd14 ct14), sl14⟩) (c14 : PySem.W.codeIn K cd14 "need_row" = true) (k14 : PySem.W.keepIn K (.ref f14) = true)
    (a15 : PySem.W.nsIn K mainGlobals "need_all" = some (some (.ref f15))) (l15 : K.lookup f15 = some ⟨oc15, od15, .func (PySem.W.fnOf "need_all" "need_all" (defArgs s_need_all) (defBody s_need_all) (defScope s_need_all) .none kV15 dc15 pm15 an15 cd15 ct15), sl15⟩) (c15 : PySem.W.codeIn K cd15 "need_all" = true) (k15 : PySem.W.keepIn K (.ref f15) = true)
    (a16 : PySem.W.nsIn K mainGlobals "idle_in" = some (some (.ref f16))) (l16 : K.lookup f16 = some ⟨oc16, od16, .func (PySem.W.fnOf "idle_in" "idle_in" (defArgs s_idle_in) (defBody s_idle_in) (defScope s_idle_in) .none kV16 dc16 pm16 an16 cd16 ct16), sl16⟩) (c16 : PySem.W.codeIn K cd16 "idle_in" = true) (k16 : PySem.W.keepIn K (.ref f16) = true)
    (a17 : PySem.W.nsIn K mainGlobals "run" = some (some (.ref f17))) (l17 : K.lookup f17 = some ⟨oc17, od17, .func (PySem.W.fnOf "run" "run" (defArgs s_run) (defBody s_run) (defScope s_run) .none kV17 dc17 pm17 an17 cd17 ct17), sl17⟩) (c17 : PySem.W.codeIn K cd17 "run" = true) (k17 : PySem.W.keepIn K (.ref f17) = true)
    (a18 : PySem.W.nsIn K mainGlobals "_law_taken" = some (some (.ref f18))) (l18 : K.lookup f18 = some ⟨oc18, od18, .func (PySem.W.fnOf "_law_taken" "_law_taken" (defArgs s__law_taken) (defBody s__law_taken) (defScope s__law_taken) .none kV18 dc18 pm18 an18 cd18 ct18), sl18⟩) (c18 : PySem.W.codeIn K cd18 "_law_taken" = true) (k18 : PySem.W.keepIn K (.ref f18) = true)
    (a19 : PySem.W.nsIn K mainGlobals "_law_setting" = some (some (.ref f19))) (l19 : K.lookup f19 = some ⟨oc19, od19, .func (PySem.W.fnOf "_law_setting" "_law_setting" (defArgs s__law_setting) (defBody s__law_setting) (defScope s__law_setting) .none kV19 dc19 pm19 an19 cd19 ct19), sl19⟩) (c19 : PySem.W.codeIn K cd19 "_law_setting" = true) (k19 : PySem.W.keepIn K (.ref f19) = true)
    (a20 : PySem.W.nsIn K mainGlobals "law" = some (some (.ref f20))) (l20 : K.lookup f20 = some ⟨oc20, od20, .func (PySem.W.fnOf "law" "law" (defArgs s_law) (defBody s_law) (defScope s_law) .none kV20 dc20 pm20 an20 cd20 ct20), sl20⟩) (c20 : PySem.W.codeIn K cd20 "law" = true) (k20 : PySem.W.keepIn K (.ref f20) = true)
    (aC0 : PySem.W.nsIn K mainGlobals "House" = some (some (.ref C0))) (pgC0 : PySem.W.plainGet K C0 Str.empty = true) (hdC0 : PySem.W.hasDictIn K C0 = true) (poC0 : PySem.W.plainOver K C0 = true) (saC0 : PySem.W.findIn K (.ref C0) "__setattr__" = some (some (.builtin "object.__setattr__"))) (mkC0 : PySem.W.makesIn K C0 = true) (kcC0 : PySem.W.keepIn K (.ref C0) = true)
    (nat_House_places : PySem.W.findIn K (.ref C0) "places" = some none)
    (nat_House_room : PySem.W.findIn K (.ref C0) "room" = some none)
    (nat_House_late : PySem.W.findIn K (.ref C0) "late" = some none)
    (nat_House_most : PySem.W.findIn K (.ref C0) "most" = some none)
    (aC1 : PySem.W.nsIn K mainGlobals "Run" = some (some (.ref C1))) (pgC1 : PySem.W.plainGet K C1 Str.empty = true) (hdC1 : PySem.W.hasDictIn K C1 = true) (poC1 : PySem.W.plainOver K C1 = true) (saC1 : PySem.W.findIn K (.ref C1) "__setattr__" = some (some (.builtin "object.__setattr__"))) (mkC1 : PySem.W.makesIn K C1 = true) (kcC1 : PySem.W.keepIn K (.ref C1) = true)
    (nat_Run_house : PySem.W.findIn K (.ref C1) "house" = some none)
    (nat_Run_guesser : PySem.W.findIn K (.ref C1) "guesser" = some none)
    (nat_Run_cells : PySem.W.findIn K (.ref C1) "cells" = some none)
    (nat_Run_lies : PySem.W.findIn K (.ref C1) "lies" = some none)
    (nat_Run_answers : PySem.W.findIn K (.ref C1) "answers" = some none)
    (nat_Run_rows : PySem.W.findIn K (.ref C1) "rows" = some none)
    (nat_Run_state : PySem.W.findIn K (.ref C1) "state" = some none)
    (am0 : PySem.W.findIn K (.ref C0) "__init__" = some (some (.ref fm0))) (im0 : PySem.W.isFn K (.ref fm0) = true) (lm0 : K.lookup fm0 = some ⟨ocm0, odm0, .func (PySem.W.fnOf "__init__" "House.__init__" (defArgs s_House___init__) (defBody s_House___init__) (defScope s_House___init__) .none kVm0 dcm0 pmm0 anm0 cdm0 ctm0), slm0⟩) (cm0 : PySem.W.codeIn K cdm0 "House.__init__" = true) (km0 : PySem.W.keepIn K (.ref fm0) = true)
    (am1 : PySem.W.findIn K (.ref C1) "__init__" = some (some (.ref fm1))) (im1 : PySem.W.isFn K (.ref fm1) = true) (lm1 : K.lookup fm1 = some ⟨ocm1, odm1, .func (PySem.W.fnOf "__init__" "Run.__init__" (defArgs s_Run___init__) (defBody s_Run___init__) (defScope s_Run___init__) .none kVm1 dcm1 pmm1 anm1 cdm1 ctm1), slm1⟩) (cm1 : PySem.W.codeIn K cdm1 "Run.__init__" = true) (km1 : PySem.W.keepIn K (.ref fm1) = true)
    (am2 : PySem.W.findIn K (.ref C1) "do_deed" = some (some (.ref fm2))) (im2 : PySem.W.isFn K (.ref fm2) = true) (lm2 : K.lookup fm2 = some ⟨ocm2, odm2, .func (PySem.W.fnOf "do_deed" "Run.do_deed" (defArgs s_Run_do_deed) (defBody s_Run_do_deed) (defScope s_Run_do_deed) .none kVm2 dcm2 pmm2 anm2 cdm2 ctm2), slm2⟩) (cm2 : PySem.W.codeIn K cdm2 "Run.do_deed" = true) (km2 : PySem.W.keepIn K (.ref fm2) = true)
    (am3 : PySem.W.findIn K (.ref C1) "count" = some (some (.ref fm3))) (im3 : PySem.W.isFn K (.ref fm3) = true) (lm3 : K.lookup fm3 = some ⟨ocm3, odm3, .func (PySem.W.fnOf "count" "Run.count" (defArgs s_Run_count) (defBody s_Run_count) (defScope s_Run_count) .none kVm3 dcm3 pmm3 anm3 cdm3 ctm3), slm3⟩) (cm3 : PySem.W.codeIn K cdm3 "Run.count" = true) (km3 : PySem.W.keepIn K (.ref fm3) = true)
    (am4 : PySem.W.findIn K (.ref C1) "counts" = some (some (.ref fm4))) (im4 : PySem.W.isFn K (.ref fm4) = true) (lm4 : K.lookup fm4 = some ⟨ocm4, odm4, .func (PySem.W.fnOf "counts" "Run.counts" (defArgs s_Run_counts) (defBody s_Run_counts) (defScope s_Run_counts) .none kVm4 dcm4 pmm4 anm4 cdm4 ctm4), slm4⟩) (cm4 : PySem.W.codeIn K cdm4 "Run.counts" = true) (km4 : PySem.W.keepIn K (.ref fm4) = true)
    (ad0 : PySem.W.nsIn K mainGlobals "SORTS" = some (some (.ref d0))) (ld0 : K.lookup d0 = some ⟨.type "dict", none, .dict es0 en0, #[]⟩) (lo0 : (d0 == sysModules) = false) (li0 : PySem.W.KeysLit w.params es0.toList) (ee0 : ∃ t0 u0 t1 u1 t2 u2 t3 u3 t4 u4, es0.toList.map (fun e => (e.key, e.val)) = [(.str "none" t0, .int 1 u0), (.str "next" t1, .int 2 u1), (.str "stride" t2, .int 2 u2), (.str "pairs" t3, .int 2 u3), (.str "both" t4, .int 3 u4)])
    (ad1 : PySem.W.nsIn K mainGlobals "MOST_OF" = some (some (.ref d1))) (ld1 : K.lookup d1 = some ⟨.type "dict", none, .dict es1 en1, #[]⟩) (lo1 : (d1 == sysModules) = false) (li1 : PySem.W.KeysLit w.params es1.toList) (ee1 : ∃ t0 u0 t1 u1 t2 u2, es1.toList.map (fun e => (e.key, e.val)) = [(.str "next" t0, .int 3 u0), (.str "stride" t1, .int 3 u1), (.str "pairs" t2, .int 2 u2)])
    (ai0 : PySem.W.nsIn K mainGlobals "MOST_WITHIN" = some (some (.int 3 ti0)))
    (ai1 : PySem.W.nsIn K mainGlobals "MOST_PLACES" = some (some (.int 32 ti1)))
    (ai2 : PySem.W.nsIn K mainGlobals "MOST_NUMBER" = some (some (.int 99 ti2)))
    (ai3 : PySem.W.nsIn K mainGlobals "MOST_ROOM" = some (some (.int 8 ti3)))
    (ai4 : PySem.W.nsIn K mainGlobals "MOST_LATE" = some (some (.int 4 ti4)))
    (ai5 : PySem.W.nsIn K mainGlobals "MOST_WAY" = some (some (.int 4 ti5)))
    (ai6 : PySem.W.nsIn K mainGlobals "MOST_DEEDS" = some (some (.int 100 ti6)))
    (z0 : PySem.W.nsIn K mainGlobals "len" = some none)
    (z1 : PySem.W.nsIn K mainGlobals "range" = some none)
    (z2 : PySem.W.nsIn K mainGlobals "int" = some none)
    (z3 : PySem.W.nsIn K mainGlobals "str" = some none)
    (z4 : PySem.W.nsIn K mainGlobals "bool" = some none)
    (z5 : PySem.W.nsIn K mainGlobals "tuple" = some none)
    (z6 : PySem.W.nsIn K mainGlobals "list" = some none)
    (z7 : PySem.W.nsIn K mainGlobals "isinstance" = some none)
    (z8 : PySem.W.nsIn K mainGlobals "max" = some none)
    (z9 : PySem.W.nsIn K mainGlobals "min" = some none)
    (z10 : PySem.W.nsIn K mainGlobals "sum" = some none)
    (z11 : PySem.W.nsIn K mainGlobals "sorted" = some none)
    (z12 : PySem.W.nsIn K mainGlobals "dict" = some none)
    (z13 : PySem.W.nsIn K mainGlobals "set" = some none)
    (z14 : PySem.W.nsIn K mainGlobals "zip" = some none)
    (z15 : PySem.W.nsIn K mainGlobals "enumerate" = some none) :
    ∃ fd : FuncData, (∀ (s : Shared) (v : Value), BindsTo s fd ⟨[v], []⟩ [("_law_script", v)]) ∧ ∀ base : Heap, K.In base → base.Ns mainGlobals mg → FnOk l.prog w K mg base CX0 11 fa fd ["_law_script"] (spLaw K) := by
  have e := hfa.symm.trans (PySem.W.mg_of X G a20)
  cases e
  have D_laid : Df K mg "laid" s_laid p_laid f0 (PySem.W.fnOf "laid" "laid" (defArgs s_laid) (defBody s_laid) (defScope s_laid) .none kV0 dc0 pm0 an0 cd0 ct0) := ⟨fun_mk (st := s_laid) l0 c0 k0, PySem.W.mg_of X G a0, (fun_mk (st := s_laid) l0 c0 k0).binds (ps := p_laid) fun _ _ _ _ _ _ us hl => match us, hl with | [_, _, _, _, _], _ => rfl⟩
  have D_come : Df K mg "come" s_come p_come f1 (PySem.W.fnOf "come" "come" (defArgs s_come) (defBody s_come) (defScope s_come) .none kV1 dc1 pm1 an1 cd1 ct1) := ⟨fun_mk (st := s_come) l1 c1 k1, PySem.W.mg_of X G a1, (fun_mk (st := s_come) l1 c1 k1).binds (ps := p_come) fun _ _ _ _ _ _ us hl => match us, hl with | [_, _, _, _], _ => rfl⟩
  have D_asked : Df K mg "asked" s_asked p_asked f2 (PySem.W.fnOf "asked" "asked" (defArgs s_asked) (defBody s_asked) (defScope s_asked) .none kV2 dc2 pm2 an2 cd2 ct2) := ⟨fun_mk (st := s_asked) l2 c2 k2, PySem.W.mg_of X G a2, (fun_mk (st := s_asked) l2 c2 k2).binds (ps := p_asked) fun _ _ _ _ _ _ us hl => match us, hl with | [_, _, _, _, _], _ => rfl⟩
  have D_started : Df K mg "started" s_started p_started f3 (PySem.W.fnOf "started" "started" (defArgs s_started) (defBody s_started) (defScope s_started) .none kV3 dc3 pm3 an3 cd3 ct3) := ⟨fun_mk (st := s_started) l3 c3 k3, PySem.W.mg_of X G a3, (fun_mk (st := s_started) l3 c3 k3).binds (ps := p_started) fun _ _ _ _ _ _ us hl => match us, hl with | [_, _, _, _, _], _ => rfl⟩
  have D_strided : Df K mg "strided" s_strided p_strided f4 (PySem.W.fnOf "strided" "strided" (defArgs s_strided) (defBody s_strided) (defScope s_strided) .none kV4 dc4 pm4 an4 cd4 ct4) := ⟨fun_mk (st := s_strided) l4 c4 k4, PySem.W.mg_of X G a4, (fun_mk (st := s_strided) l4 c4 k4).binds (ps := p_strided) fun _ _ _ _ _ _ us hl => match us, hl with | [_, _, _], _ => rfl⟩
  have D_paired : Df K mg "paired" s_paired p_paired f5 (PySem.W.fnOf "paired" "paired" (defArgs s_paired) (defBody s_paired) (defScope s_paired) .none kV5 dc5 pm5 an5 cd5 ct5) := ⟨fun_mk (st := s_paired) l5 c5 k5, PySem.W.mg_of X G a5, (fun_mk (st := s_paired) l5 c5 k5).binds (ps := p_paired) fun _ _ _ _ _ _ us hl => match us, hl with | [_, _, _], _ => rfl⟩
  have D_stepped : Df K mg "stepped" s_stepped p_stepped f6 (PySem.W.fnOf "stepped" "stepped" (defArgs s_stepped) (defBody s_stepped) (defScope s_stepped) .none kV6 dc6 pm6 an6 cd6 ct6) := ⟨fun_mk (st := s_stepped) l6 c6 k6, PySem.W.mg_of X G a6, (fun_mk (st := s_stepped) l6 c6 k6).binds (ps := p_stepped) fun _ _ _ _ _ _ us hl => match us, hl with | [_, _, _], _ => rfl⟩
  have D_gone_on : Df K mg "gone_on" s_gone_on p_gone_on f7 (PySem.W.fnOf "gone_on" "gone_on" (defArgs s_gone_on) (defBody s_gone_on) (defScope s_gone_on) .none kV7 dc7 pm7 an7 cd7 ct7) := ⟨fun_mk (st := s_gone_on) l7 c7 k7, PySem.W.mg_of X G a7, (fun_mk (st := s_gone_on) l7 c7 k7).binds (ps := p_gone_on) fun _ _ _ _ _ _ us hl => match us, hl with | [_, _, _, _], _ => rfl⟩
  have D_first_state : Df K mg "first_state" s_first_state p_first_state f8 (PySem.W.fnOf "first_state" "first_state" (defArgs s_first_state) (defBody s_first_state) (defScope s_first_state) .none kV8 dc8 pm8 an8 cd8 ct8) := ⟨fun_mk (st := s_first_state) l8 c8 k8, PySem.W.mg_of X G a8, (fun_mk (st := s_first_state) l8 c8 k8).binds (ps := p_first_state) fun _ _ _ _ _ _ us hl => match us, hl with | [_], _ => rfl⟩
  have D_begun : Df K mg "begun" s_begun p_begun f9 (PySem.W.fnOf "begun" "begun" (defArgs s_begun) (defBody s_begun) (defScope s_begun) .none kV9 dc9 pm9 an9 cd9 ct9) := ⟨fun_mk (st := s_begun) l9 c9 k9, PySem.W.mg_of X G a9, (fun_mk (st := s_begun) l9 c9 k9).binds (ps := p_begun) fun _ _ _ _ _ _ us hl => match us, hl with | [_], _ => rfl⟩
  have D_is_guesser : Df K mg "is_guesser" s_is_guesser p_is_guesser f10 (PySem.W.fnOf "is_guesser" "is_guesser" (defArgs s_is_guesser) (defBody s_is_guesser) (defScope s_is_guesser) .none kV10 dc10 pm10 an10 cd10 ct10) := ⟨fun_mk (st := s_is_guesser) l10 c10 k10, PySem.W.mg_of X G a10, (fun_mk (st := s_is_guesser) l10 c10 k10).binds (ps := p_is_guesser) fun _ _ _ _ _ _ us hl => match us, hl with | [_, _], _ => rfl⟩
  have D_need_guesser : Df K mg "need_guesser" s_need_guesser p_need_guesser f11 (PySem.W.fnOf "need_guesser" "need_guesser" (defArgs s_need_guesser) (defBody s_need_guesser) (defScope s_need_guesser) .none kV11 dc11 pm11 an11 cd11 ct11) := ⟨fun_mk (st := s_need_guesser) l11 c11 k11, PySem.W.mg_of X G a11, (fun_mk (st := s_need_guesser) l11 c11 k11).binds (ps := p_need_guesser) fun _ _ _ _ _ _ us hl => match us, hl with | [_], _ => rfl⟩
  have D_need_setting : Df K mg "need_setting" s_need_setting p_need_setting f12 (PySem.W.fnOf "need_setting" "need_setting" (defArgs s_need_setting) (defBody s_need_setting) (defScope s_need_setting) .none kV12 dc12 pm12 an12 cd12 ct12) := ⟨fun_mk (st := s_need_setting) l12 c12 k12, PySem.W.mg_of X G a12, (fun_mk (st := s_need_setting) l12 c12 k12).binds (ps := p_need_setting) fun _ _ _ _ _ _ us hl => match us, hl with | [_], _ => rfl⟩
  have D_is_deed : Df K mg "is_deed" s_is_deed p_is_deed f13 (PySem.W.fnOf "is_deed" "is_deed" (defArgs s_is_deed) (defBody s_is_deed) (defScope s_is_deed) .none kV13 dc13 pm13 an13 cd13 ct13) := ⟨fun_mk (st := s_is_deed) l13 c13 k13, PySem.W.mg_of X G a13, (fun_mk (st := s_is_deed) l13 c13 k13).binds (ps := p_is_deed) fun _ _ _ _ _ _ us hl => match us, hl with | [_, _], _ => rfl⟩
  have D_need_row : Df K mg "need_row" s_need_row p_need_row f14 (PySem.W.fnOf "need_row" "need_row" (defArgs s_need_row) (defBody s_need_row) (defScope s_need_row) .none kV14 dc14 pm14 an14 cd14 ct14) := ⟨fun_mk (st := s_need_row) l14 c14 k14, PySem.W.mg_of X G a14, (fun_mk (st := s_need_row) l14 c14 k14).binds (ps := p_need_row) fun _ _ _ _ _ _ us hl => match us, hl with | [_, _], _ => rfl⟩
  have D_need_all : Df K mg "need_all" s_need_all p_need_all f15 (PySem.W.fnOf "need_all" "need_all" (defArgs s_need_all) (defBody s_need_all) (defScope s_need_all) .none kV15 dc15 pm15 an15 cd15 ct15) := ⟨fun_mk (st := s_need_all) l15 c15 k15, PySem.W.mg_of X G a15, (fun_mk (st := s_need_all) l15 c15 k15).binds (ps := p_need_all) fun _ _ _ _ _ _ us hl => match us, hl with | [_, _, _], _ => rfl⟩
  have D_idle_in : Df K mg "idle_in" s_idle_in p_idle_in f16 (PySem.W.fnOf "idle_in" "idle_in" (defArgs s_idle_in) (defBody s_idle_in) (defScope s_idle_in) .none kV16 dc16 pm16 an16 cd16 ct16) := ⟨fun_mk (st := s_idle_in) l16 c16 k16, PySem.W.mg_of X G a16, (fun_mk (st := s_idle_in) l16 c16 k16).binds (ps := p_idle_in) fun _ _ _ _ _ _ us hl => match us, hl with | [_], _ => rfl⟩
  have D_run : Df K mg "run" s_run p_run f17 (PySem.W.fnOf "run" "run" (defArgs s_run) (defBody s_run) (defScope s_run) .none kV17 dc17 pm17 an17 cd17 ct17) := ⟨fun_mk (st := s_run) l17 c17 k17, PySem.W.mg_of X G a17, (fun_mk (st := s_run) l17 c17 k17).binds (ps := p_run) fun _ _ _ _ _ _ us hl => match us, hl with | [_, _, _], _ => rfl⟩
  have D__law_taken : Df K mg "_law_taken" s__law_taken p__law_taken f18 (PySem.W.fnOf "_law_taken" "_law_taken" (defArgs s__law_taken) (defBody s__law_taken) (defScope s__law_taken) .none kV18 dc18 pm18 an18 cd18 ct18) := ⟨fun_mk (st := s__law_taken) l18 c18 k18, PySem.W.mg_of X G a18, (fun_mk (st := s__law_taken) l18 c18 k18).binds (ps := p__law_taken) fun _ _ _ _ _ _ us hl => match us, hl with | [_, _], _ => rfl⟩
  have D__law_setting : Df K mg "_law_setting" s__law_setting p__law_setting f19 (PySem.W.fnOf "_law_setting" "_law_setting" (defArgs s__law_setting) (defBody s__law_setting) (defScope s__law_setting) .none kV19 dc19 pm19 an19 cd19 ct19) := ⟨fun_mk (st := s__law_setting) l19 c19 k19, PySem.W.mg_of X G a19, (fun_mk (st := s__law_setting) l19 c19 k19).binds (ps := p__law_setting) fun _ _ _ _ _ _ us hl => match us, hl with | [_, _], _ => rfl⟩
  have KC_House : ClassD K mg "House" C0 fm0 := ⟨PySem.W.mg_of X G aC0, ⟨mkC0, am0, im0, kcC0⟩, ⟨pgC0, hdC0, poC0, saC0⟩⟩
  have KC_Run : ClassD K mg "Run" C1 fm1 := ⟨PySem.W.mg_of X G aC1, ⟨mkC1, am1, im1, kcC1⟩, ⟨pgC1, hdC1, poC1, saC1⟩⟩
  have D_House___init__ : Mf K C0 "__init__" "House.__init__" s_House___init__ p_House___init__ fm0 (PySem.W.fnOf "__init__" "House.__init__" (defArgs s_House___init__) (defBody s_House___init__) (defScope s_House___init__) .none kVm0 dcm0 pmm0 anm0 cdm0 ctm0) := ⟨fun_mk (st := s_House___init__) lm0 cm0 km0, (fun_mk (st := s_House___init__) lm0 cm0 km0).binds (ps := p_House___init__) fun _ _ _ _ _ _ us hl => match us, hl with | [_, _], _ => rfl, ⟨am0, im0, km0⟩⟩
  have D_Run___init__ : Mf K C1 "__init__" "Run.__init__" s_Run___init__ p_Run___init__ fm1 (PySem.W.fnOf "__init__" "Run.__init__" (defArgs s_Run___init__) (defBody s_Run___init__) (defScope s_Run___init__) .none kVm1 dcm1 pmm1 anm1 cdm1 ctm1) := ⟨fun_mk (st := s_Run___init__) lm1 cm1 km1, (fun_mk (st := s_Run___init__) lm1 cm1 km1).binds (ps := p_Run___init__) fun _ _ _ _ _ _ us hl => match us, hl with | [_, _, _, _], _ => rfl, ⟨am1, im1, km1⟩⟩
  have D_Run_do_deed : Mf K C1 "do_deed" "Run.do_deed" s_Run_do_deed p_Run_do_deed fm2 (PySem.W.fnOf "do_deed" "Run.do_deed" (defArgs s_Run_do_deed) (defBody s_Run_do_deed) (defScope s_Run_do_deed) .none kVm2 dcm2 pmm2 anm2 cdm2 ctm2) := ⟨fun_mk (st := s_Run_do_deed) lm2 cm2 km2, (fun_mk (st := s_Run_do_deed) lm2 cm2 km2).binds (ps := p_Run_do_deed) fun _ _ _ _ _ _ us hl => match us, hl with | [_, _, _], _ => rfl, ⟨am2, im2, km2⟩⟩
  have D_Run_count : Mf K C1 "count" "Run.count" s_Run_count p_Run_count fm3 (PySem.W.fnOf "count" "Run.count" (defArgs s_Run_count) (defBody s_Run_count) (defScope s_Run_count) .none kVm3 dcm3 pmm3 anm3 cdm3 ctm3) := ⟨fun_mk (st := s_Run_count) lm3 cm3 km3, (fun_mk (st := s_Run_count) lm3 cm3 km3).binds (ps := p_Run_count) fun _ _ _ _ _ _ us hl => match us, hl with | [_, _], _ => rfl, ⟨am3, im3, km3⟩⟩
  have D_Run_counts : Mf K C1 "counts" "Run.counts" s_Run_counts p_Run_counts fm4 (PySem.W.fnOf "counts" "Run.counts" (defArgs s_Run_counts) (defBody s_Run_counts) (defScope s_Run_counts) .none kVm4 dcm4 pmm4 anm4 cdm4 ctm4) := ⟨fun_mk (st := s_Run_counts) lm4 cm4 km4, (fun_mk (st := s_Run_counts) lm4 cm4 km4).binds (ps := p_Run_counts) fun _ _ _ _ _ _ us hl => match us, hl with | [_], _ => rfl, ⟨am4, im4, km4⟩⟩
  have I_SORTS : IDict K w d0 [("none", 1), ("next", 2), ("stride", 2), ("pairs", 2), ("both", 3)] := ⟨⟨es0, en0, ⟨ld0, li0, lo0⟩, by obtain ⟨_, _, _, _, _, _, _, _, _, _, e⟩ := ee0; rw [e]; exact (.cons ⟨⟨_, rfl⟩, ⟨_, rfl⟩⟩ (.cons ⟨⟨_, rfl⟩, ⟨_, rfl⟩⟩ (.cons ⟨⟨_, rfl⟩, ⟨_, rfl⟩⟩ (.cons ⟨⟨_, rfl⟩, ⟨_, rfl⟩⟩ (.cons ⟨⟨_, rfl⟩, ⟨_, rfl⟩⟩ .nil)))))⟩⟩
  have g_SORTS := PySem.W.mg_of X G ad0
  have I_MOST_OF : IDict K w d1 [("next", 3), ("stride", 3), ("pairs", 2)] := ⟨⟨es1, en1, ⟨ld1, li1, lo1⟩, by obtain ⟨_, _, _, _, _, _, e⟩ := ee1; rw [e]; exact (.cons ⟨⟨_, rfl⟩, ⟨_, rfl⟩⟩ (.cons ⟨⟨_, rfl⟩, ⟨_, rfl⟩⟩ (.cons ⟨⟨_, rfl⟩, ⟨_, rfl⟩⟩ .nil)))⟩⟩
  have g_MOST_OF := PySem.W.mg_of X G ad1
  have g_MOST_WITHIN : ∃ t, mg "MOST_WITHIN" = some (.int 3 t) := ⟨_, PySem.W.mg_of X G ai0⟩
  have g_MOST_PLACES : ∃ t, mg "MOST_PLACES" = some (.int 32 t) := ⟨_, PySem.W.mg_of X G ai1⟩
  have g_MOST_NUMBER : ∃ t, mg "MOST_NUMBER" = some (.int 99 t) := ⟨_, PySem.W.mg_of X G ai2⟩
  have g_MOST_ROOM : ∃ t, mg "MOST_ROOM" = some (.int 8 t) := ⟨_, PySem.W.mg_of X G ai3⟩
  have g_MOST_LATE : ∃ t, mg "MOST_LATE" = some (.int 4 t) := ⟨_, PySem.W.mg_of X G ai4⟩
  have g_MOST_WAY : ∃ t, mg "MOST_WAY" = some (.int 4 t) := ⟨_, PySem.W.mg_of X G ai5⟩
  have g_MOST_DEEDS : ∃ t, mg "MOST_DEEDS" = some (.int 100 t) := ⟨_, PySem.W.mg_of X G ai6⟩
  have T : Nms mg := ⟨PySem.W.mg_none_of X G z0, PySem.W.mg_none_of X G z1, PySem.W.mg_none_of X G z2, PySem.W.mg_none_of X G z3, PySem.W.mg_none_of X G z4, PySem.W.mg_none_of X G z5, PySem.W.mg_none_of X G z6, PySem.W.mg_none_of X G z7, PySem.W.mg_none_of X G z8, PySem.W.mg_none_of X G z9, PySem.W.mg_none_of X G z10, PySem.W.mg_none_of X G z11, PySem.W.mg_none_of X G z12, PySem.W.mg_none_of X G z13, PySem.W.mg_none_of X G z14, PySem.W.mg_none_of X G z15⟩
  exact ⟨PySem.W.fnOf "law" "law" (defArgs s_law) (defBody s_law) (defScope s_law) .none kV20 dc20 pm20 an20 cd20 ct20, fun s v => .of_eq rfl, fun base _ _ => ok_law ⟨T, ⟨g_SORTS, I_SORTS, g_MOST_OF, I_MOST_OF, g_MOST_WITHIN⟩, ⟨g_MOST_PLACES, g_MOST_NUMBER, g_MOST_ROOM, g_MOST_LATE, g_MOST_WAY, g_MOST_DEEDS⟩, D_is_guesser, D_need_guesser, D_need_setting, D_is_deed, D_need_row, D_need_all⟩ ⟨T, ⟨KC_House.cl, nat_House_places, nat_House_room, nat_House_late, nat_House_most⟩, KC_House, KC_Run, ⟨nat_Run_house, nat_Run_guesser, nat_Run_cells, nat_Run_lies, nat_Run_answers, nat_Run_rows, nat_Run_state⟩, D_House___init__, D_laid, D_come, D_asked, D_started, D_strided, D_paired, D_stepped, D_gone_on, D_first_state, D_begun, D_Run_do_deed, D_Run___init__⟩ D_Run_count D_Run_counts D_idle_in D_run D__law_taken D__law_setting (fun_mk (st := s_law) l20 c20 k20)⟩
end St
open PySem PySem.W PyProof.Rows
set_option maxHeartbeats 0 in
theorem PySem.Challenge.cw_stridewell_k11_whole_one_stride_througho_holds : PySem.Challenge.rw_stridewell_k11_whole_one_stride_througho.Holds := by
  w_on; o_law; k_head; (case hw => w_witness2)
  k_fill
  refine L2.walk_of (l := PySem.Challenge.rw_stridewell_k11_whole_one_stride_througho) (n := 63) (k := 11) (x := "_law_script") (CX := fun _ => L2.CX0) (sp := fun w => St.spLaw _) rfl (by decide) rfl ⟨rfl, by decide, by decide⟩ (fun w h Y => PySem.W.kIn_of Y) ?F (fun _ _ a ns hl hO hS => ⟨a, ns, rfl, St.Sc.of hO hS, fun _ => rfl⟩) (fun _ _ _ _ _ h => h)
  case F =>
    intro w mg fa h KX G hmg
    refine' St.all_mk KX G hmg ?a0 ?l0 ?c0 ?k0 ?a1 ?l1 ?c1 ?k1 ?a2 ?l2 ?c2 ?k2 ?a3 ?l3 ?c3 ?k3 ?a4 ?l4 ?c4 ?k4 ?a5 ?l5 ?c5 ?k5 ?a6 ?l6 ?c6 ?k6 ?a7 ?l7 ?c7 ?k7 ?a8 ?l8 ?c8 ?k8 ?a9 ?l9 ?c9 ?k9 ?a10 ?l10 ?c10 ?k10 ?a11 ?l11 ?c11 ?k11 ?a12 ?l12 ?c12 ?k12 ?a13 ?l13 ?c13 ?k13 ?a14 ?l14 ?c14 ?k14 ?a15 ?l15 ?c15 ?k15 ?a16 ?l16 ?c16 ?k16 ?a17 ?l17 ?c17 ?k17 ?a18 ?l18 ?c18 ?k18 ?a19 ?l19 ?c19 ?k19 ?a20 ?l20 ?c20 ?k20 ?aC0 ?pgC0 ?hdC0 ?poC0 ?saC0 ?mkC0 ?kcC0 ?nat_House_places ?nat_House_room ?nat_House_late ?nat_House_most ?aC1 ?pgC1 ?hdC1 ?poC1 ?saC1 ?mkC1 ?kcC1 ?nat_Run_house ?nat_Run_guesser ?nat_Run_cells ?nat_Run_lies ?nat_Run_answers ?nat_Run_rows ?nat_Run_state ?am0 ?im0 ?lm0 ?cm0 ?km0 ?am1 ?im1 ?lm1 ?cm1 ?km1 ?am2 ?im2 ?lm2 ?cm2 ?km2 ?am3 ?im3 ?lm3 ?cm3 ?km3 ?am4 ?im4 ?lm4 ?cm4 ?km4 ?ad0 ?ld0 ?lo0 ?li0 ?ee0 ?ad1 ?ld1 ?lo1 ?li1 ?ee1 ?ai0 ?ai1 ?ai2 ?ai3 ?ai4 ?ai5 ?ai6 ?z0 ?z1 ?z2 ?z3 ?z4 ?z5 ?z6 ?z7 ?z8 ?z9 ?z10 ?z11 ?z12 ?z13 ?z14 ?z15
    (case a0 => k_is); (case l0 => k_is); (case c0 => k_is); (case k0 => k_is); (case a1 => k_is); (case l1 => k_is)
    (case c1 => k_is); (case k1 => k_is); (case a2 => k_is); (case l2 => k_is); (case c2 => k_is); (case k2 => k_is)
    (case a3 => k_is); (case l3 => k_is); (case c3 => k_is); (case k3 => k_is); (case a4 => k_is); (case l4 => k_is)
    (case c4 => k_is); (case k4 => k_is); (case a5 => k_is); (case l5 => k_is); (case c5 => k_is); (case k5 => k_is)
    (case a6 => k_is); (case l6 => k_is); (case c6 => k_is); (case k6 => k_is); (case a7 => k_is); (case l7 => k_is)
    (case c7 => k_is); (case k7 => k_is); (case a8 => k_is); (case l8 => k_is); (case c8 => k_is); (case k8 => k_is)
    (case a9 => k_is); (case l9 => k_is); (case c9 => k_is); (case k9 => k_is); (case a10 => k_is); (case l10 => k_is)
    (case c10 => k_is); (case k10 => k_is); (case a11 => k_is); (case l11 => k_is); (case c11 => k_is); (case k11 => k_is)
    (case a12 => k_is); (case l12 => k_is); (case c12 => k_is); (case k12 => k_is); (case a13 => k_is); (case l13 => k_is)
    (case c13 => k_is); (case k13 => k_is); (case a14 => k_is); (case l14 => k_is); (case c14 => k_is); (case k14 => k_is)
    (case a15 => k_is); (case l15 => k_is); (case c15 => k_is); (case k15 => k_is); (case a16 => k_is); (case l16 => k_is)
    (case c16 => k_is); (case k16 => k_is); (case a17 => k_is); (case l17 => k_is); (case c17 => k_is); (case k17 => k_is)
    (case a18 => k_is); (case l18 => k_is); (case c18 => k_is); (case k18 => k_is); (case a19 => k_is); (case l19 => k_is)
    (case c19 => k_is); (case k19 => k_is); (case a20 => k_is); (case l20 => k_is); (case c20 => k_is); (case k20 => k_is)
    (case aC0 => k_is); (case pgC0 => k_is); (case hdC0 => k_is); (case poC0 => k_is); (case saC0 => k_is); (case mkC0 => k_is)
    (case kcC0 => k_is); (case nat_House_places => k_is); (case nat_House_room => k_is); (case nat_House_late => k_is); (case nat_House_most => k_is); (case aC1 => k_is)
    (case pgC1 => k_is); (case hdC1 => k_is); (case poC1 => k_is); (case saC1 => k_is); (case mkC1 => k_is); (case kcC1 => k_is)
    (case nat_Run_house => k_is); (case nat_Run_guesser => k_is); (case nat_Run_cells => k_is); (case nat_Run_lies => k_is); (case nat_Run_answers => k_is); (case nat_Run_rows => k_is)
    (case nat_Run_state => k_is); (case am0 => k_is); (case im0 => k_is); (case lm0 => k_is); (case cm0 => k_is); (case km0 => k_is)
    (case am1 => k_is); (case im1 => k_is); (case lm1 => k_is); (case cm1 => k_is); (case km1 => k_is); (case am2 => k_is)
    (case im2 => k_is); (case lm2 => k_is); (case cm2 => k_is); (case km2 => k_is); (case am3 => k_is); (case im3 => k_is)
    (case lm3 => k_is); (case cm3 => k_is); (case km3 => k_is); (case am4 => k_is); (case im4 => k_is); (case lm4 => k_is)
    (case cm4 => k_is); (case km4 => k_is); (case ad0 => k_is); (case ld0 => k_is); (case lo0 => decide); (case li0 => exact ⟨⟨_, _, rfl, rfl⟩, ⟨_, _, rfl, rfl⟩, ⟨_, _, rfl, rfl⟩, ⟨_, _, rfl, rfl⟩, ⟨_, _, rfl, rfl⟩, True.intro⟩)
    (case ee0 => exact ⟨_, _, _, _, _, _, _, _, _, _, rfl⟩); (case ad1 => k_is); (case ld1 => k_is); (case lo1 => decide); (case li1 => exact ⟨⟨_, _, rfl, rfl⟩, ⟨_, _, rfl, rfl⟩, ⟨_, _, rfl, rfl⟩, True.intro⟩); (case ee1 => exact ⟨_, _, _, _, _, _, rfl⟩)
    (case ai0 => k_is); (case ai1 => k_is); (case ai2 => k_is); (case ai3 => k_is); (case ai4 => k_is); (case ai5 => k_is)
    (case ai6 => k_is); (case z0 => k_is); (case z1 => k_is); (case z2 => k_is); (case z3 => k_is); (case z4 => k_is)
    (case z5 => k_is); (case z6 => k_is); (case z7 => k_is); (case z8 => k_is); (case z9 => k_is); (case z10 => k_is)
    (case z11 => k_is); (case z12 => k_is); (case z13 => k_is); (case z14 => k_is); (case z15 => k_is)

