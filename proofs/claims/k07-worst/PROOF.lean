import PyProof.Rows.All
import Wide.All
import OpenK.AllK
import Wide.FinOn
import HandS.ForMost
import HandS.IsInst
import HandS.RaiseMore
import HandS.More
import HandS.Evl
import KE.KDictPairs
import HandS.DictTup
import HandS.SortOrd
import HandS.SortRule
import HandS.TupAny
import HandS.SetFor
import KE.KeyNested
import KE.KDictDisplayH
import KE.DatumOrd
import HandS.Zip
import HandS.Walk
import PySem.Challenge.RW_stridewell_k07_whole_the_worst_row
set_option Elab.async false
set_option linter.all false
set_option maxRecDepth 100000
set_option maxHeartbeats 0
namespace St
open PySem PySem.Spec PyProof.Rows L2
/-! ### a def of the text with its name and how its arguments bind -/
structure Df (K : PySem.W.Frag) (mg : Str → Option Value) (x : Str) (st : Stmt) (ps : List Str) (f : Addr) (fd : FuncData) : Prop where
  F : Fun K x x st f fd
  m : mg x = some (.ref f)
  b : Binds K fd ps []
/-- the built-ins' names are free -/
structure Nms (mg : Str → Option Value) : Prop where
  n_len : mg "len" = none
  n_range : mg "range" = none
  n_int : mg "int" = none
  n_str : mg "str" = none
  n_bool : mg "bool" = none
  n_tuple : mg "tuple" = none
  n_list : mg "list" = none
  n_isinstance : mg "isinstance" = none
  n_max : mg "max" = none
  n_min : mg "min" = none
  n_sum : mg "sum" = none
  n_sorted : mg "sorted" = none
  n_dict : mg "dict" = none
  n_set : mg "set" = none
  n_zip : mg "zip" = none
  n_enumerate : mg "enumerate" = none
/-! ### heaps -/
theorem same_upd {H : Hp} {p : Addr} {o : HO} (h : H p = none) : Same H (upd H p o) := fun b x e => by
  rw [upd_ne (ne_of_none e h)]
  exact e
/-- an object that H does not know may change -/
theorem same_mut {H H' : Hp} {p : Addr} {o : HO} (e : Same H H') (h : H p = none) : Same H (upd H' p o) := fun a u ha => by
  rw [upd_ne (ne_of_none ha h)]
  exact e a u ha
theorem same_rd {H H' : Hp} {a : Addr} {u : HO} (e : Same H H') (h : Rd H a u) : Rd H' a u := by
  rcases h with h | ⟨o, h⟩
  · exact Or.inl (e a _ h)
  · exact Or.inr ⟨o, e a _ h⟩
theorem same_t {K : PySem.W.Frag} {H H' : Hp} {a : Addr} {xs : List V} (e : Same H H') (h : SqT K H a xs) : SqT K H' a xs := by
  rcases h with h | h
  · exact Or.inl (same_rd e h)
  · exact Or.inr h
theorem same_l {K : PySem.W.Frag} {H H' : Hp} {a : Addr} {xs : List V} (e : Same H H') (h : SqL K H a xs) : SqL K H' a xs := e.seq h
theorem sql {K : PySem.W.Frag} {H : Hp} {a : Addr} {xs : List V} (h : H a = some (.lst xs)) : SqL K H a xs := Or.inl (Or.inl h)
theorem sqt {K : PySem.W.Frag} {H : Hp} {a : Addr} {xs : List V} (h : H a = some (.tup xs)) : SqT K H a xs := Or.inl (Or.inl h)
theorem sz {n : Nat} (h : n ≤ 1000000) : n ≤ sizeLine := Nat.le_trans h (by decide)
theorem szl {n : Nat} (h : n < 1000000) : n < sizeLine := Nat.lt_of_lt_of_le h (by decide)
theorem sz_1 {a0 : V} : [a0].length ≤ sizeLine := by show 1 ≤ sizeLine; decide
theorem sz_2 {a0 a1 : V} : [a0, a1].length ≤ sizeLine := by show 2 ≤ sizeLine; decide
theorem sz_3 {a0 a1 a2 : V} : [a0, a1, a2].length ≤ sizeLine := by show 3 ≤ sizeLine; decide
theorem sz_4 {a0 a1 a2 a3 : V} : [a0, a1, a2, a3].length ≤ sizeLine := by show 4 ≤ sizeLine; decide
theorem sz_5 {a0 a1 a2 a3 a4 : V} : [a0, a1, a2, a3, a4].length ≤ sizeLine := by show 5 ≤ sizeLine; decide
theorem sz_6 {a0 a1 a2 a3 a4 a5 : V} : [a0, a1, a2, a3, a4, a5].length ≤ sizeLine := by show 6 ≤ sizeLine; decide
theorem sz_7 {a0 a1 a2 a3 a4 a5 a6 : V} : [a0, a1, a2, a3, a4, a5, a6].length ≤ sizeLine := by show 7 ≤ sizeLine; decide
theorem sz_8 {a0 a1 a2 a3 a4 a5 a6 a7 : V} : [a0, a1, a2, a3, a4, a5, a6, a7].length ≤ sizeLine := by show 8 ≤ sizeLine; decide
/-- all but r is as it was -/
def SameX (r : Addr) (H H' : Hp) : Prop := ∀ b o, b ≠ r → H b = some o → H' b = some o
theorem SameX.refl (r : Addr) (H : Hp) : SameX r H H := fun _ _ _ h => h
theorem SameX.trans {r : Addr} {H H1 H2 : Hp} (a : SameX r H H1) (b : SameX r H1 H2) : SameX r H H2 := fun c o n h => b c o n (a c o n h)
theorem SameX.of {r : Addr} {H H' : Hp} (a : Same H H') : SameX r H H' := fun c o _ h => a c o h
theorem SameX.upd {r : Addr} {H : Hp} {o : HO} : SameX r H (upd H r o) := fun c u n h => by
  rw [upd_ne n]
  exact h
theorem SameX.rd {r : Addr} {H H' : Hp} {a : Addr} {u : HO} (e : SameX r H H') (n : a ≠ r) (h : Rd H a u) : Rd H' a u := by
  rcases h with h | ⟨o, h⟩
  · exact Or.inl (e a _ n h)
  · exact Or.inr ⟨o, e a _ n h⟩
/-- r is a list: no tuple lies there -/
def LstAt (H : Hp) (r : Addr) : Prop := ∃ xs, H r = some (.lst xs)
theorem ne_tup {H : Hp} {a r : Addr} {xs : List V} (h : Rd H a (.tup xs)) (l : LstAt H r) : a ≠ r := by
  obtain ⟨ys, l⟩ := l
  intro e
  subst e
  rcases h with h | ⟨o, h⟩
  · rw [l] at h; cases h
  · rw [l] at h; cases h
theorem SameX.t {K : PySem.W.Frag} {r : Addr} {H H' : Hp} {a : Addr} {xs : List V} (e : SameX r H H') (l : LstAt H r) (h : SqT K H a xs) : SqT K H' a xs := by
  rcases h with h | h
  · exact Or.inl (e.rd (ne_tup h l) h)
  · exact Or.inr h
/-! ### kinds of values -/
theorem tyx_T {K : PySem.W.Frag} {H : Hp} {a : Addr} {xs : List V} (h : SqT K H a xs) : TyX K H (.ref a) (.type "tuple") := by
  rcases h with (h | ⟨o, h⟩) | ⟨o, its, n, h, c, _⟩
  · exact .base (.tup h)
  · exact .fTuple h
  · exact .kTuple h c
theorem tyx_L {K : PySem.W.Frag} {H : Hp} {a : Addr} {xs : List V} (h : SqL K H a xs) : TyX K H (.ref a) (.type "list") := by
  rcases h with (h | ⟨o, h⟩) | ⟨o, its, n, h, c, _⟩
  · exact .base (.lst h)
  · exact .base (.frz h)
  · exact .kList h c
/-! ### guessers -/
inductive G where
  | nil
  | leaf (w : Str) (ns : List Int)
  | b1 (a : G)
  | both (a b : G)
  | b3 (a b c : G)
def IsG (K : PySem.W.Frag) (H : Hp) : G → V → Prop
  | .nil, v => ∃ p, v = .ref p ∧ SqT K H p []
  | .leaf w ns, v => ∃ p, v = .ref p ∧ SqT K H p (.str w :: ns.map V.int)
  | .b1 a, v => ∃ p x, v = .ref p ∧ SqT K H p [.str "both", x] ∧ IsG K H a x
  | .both a b, v => ∃ p x y, v = .ref p ∧ SqT K H p [.str "both", x, y] ∧ IsG K H a x ∧ IsG K H b y
  | .b3 a b c, v => ∃ p x y z, v = .ref p ∧ SqT K H p [.str "both", x, y, z] ∧ IsG K H a x ∧ IsG K H b y ∧ IsG K H c z
theorem IsG.mono {K : PySem.W.Frag} {H H' : Hp} (f : ∀ a xs, SqT K H a xs → SqT K H' a xs) : ∀ {g : G} {v : V}, IsG K H g v → IsG K H' g v
  | .nil, _, ⟨p, e, h⟩ => ⟨p, e, f _ _ h⟩
  | .leaf _ _, _, ⟨p, e, h⟩ => ⟨p, e, f _ _ h⟩
  | .b1 _, _, ⟨p, x, e, h, ha⟩ => ⟨p, x, e, f _ _ h, ha.mono f⟩
  | .both _ _, _, ⟨p, x, y, e, h, ha, hb⟩ => ⟨p, x, y, e, f _ _ h, ha.mono f, hb.mono f⟩
  | .b3 _ _ _, _, ⟨p, x, y, z, e, h, ha, hb, hc⟩ => ⟨p, x, y, z, e, f _ _ h, ha.mono f, hb.mono f, hc.mono f⟩
theorem IsG.same {K : PySem.W.Frag} {H H' : Hp} {g : G} {v : V} (h : IsG K H g v) (e : Same H H') : IsG K H' g v := h.mono fun _ _ => same_t e
theorem IsG.sameX {K : PySem.W.Frag} {H H' : Hp} {g : G} {v : V} {r : Addr} (h : IsG K H g v) (e : SameX r H H') (l : LstAt H r) : IsG K H' g v := h.mono fun _ _ => e.t l
/-- a word's length; how great its number may be -/
def sortsL : List (Str × Int) := [("none", 1), ("next", 2), ("stride", 2), ("pairs", 2), ("both", 3)]
def mostL : List (Str × Int) := [("next", 3), ("stride", 3), ("pairs", 2)]
/-- the words of the leaves are not both -/
def WfG : G → Prop
  | .nil => True
  | .leaf s _ => s ≠ ("both" : Str)
  | .b1 a => WfG a
  | .both a b => WfG a ∧ WfG b
  | .b3 a b c => WfG a ∧ WfG b ∧ WfG c
def numOk (s : Str) : List Int → Bool
  | [] => false
  | n :: _ => (match mostL.lookup s with
    | some m => decide (1 ≤ n) && decide (n ≤ m)
    | none => false)
/-- what is_guesser tells -/
def isG : Nat → G → Bool
  | _, .nil => false
  | w, .leaf s ns => (match sortsL.lookup s with
      | none => false
      | some k => decide (((ns.length : Nat) : Int) + 1 = k) && decide (w ≤ 3) && (decide (s = "none") || numOk s ns))
  | _, .b1 _ => false
  | w, .both a b => decide (w ≤ 3) && (isG (w + 1) a && isG (w + 1) b)
  | _, .b3 _ _ _ => false
/-- a guesser, w bothes left -/
def good : Nat → G → Bool
  | _, .nil => false
  | _, .leaf w ns => decide (w = "none" ∧ ns = []) || (match ns with
      | [n] => decide ((w = "next" ∧ 1 ≤ n ∧ n ≤ 3) ∨ (w = "stride" ∧ 1 ≤ n ∧ n ≤ 3) ∨ (w = "pairs" ∧ 1 ≤ n ∧ n ≤ 2))
      | _ => false)
  | _, .b1 _ => false
  | 0, .both _ _ => false
  | n + 1, .both a b => good n a && good n b
  | _, .b3 _ _ _ => false
/-! ### what the law draws from -/
/-- tuples and known things stay -/
structure Imm (H H' : Hp) : Prop where
  tup : ∀ b xs, H b = some (.tup xs) → H' b = some (.tup xs)
  frz : ∀ b o u, ((∃ xs, u = .tup xs) ∨ ∃ xs, u = .lst xs) → H b = some (.frz o u) → H' b = some (.frz o u)
theorem Imm.refl (H : Hp) : Imm H H := ⟨fun _ _ h => h, fun _ _ _ _ h => h⟩
theorem Imm.trans {H H1 H2 : Hp} (a : Imm H H1) (b : Imm H1 H2) : Imm H H2 := ⟨fun c xs h => b.tup c xs (a.tup c xs h), fun c o u k h => b.frz c o u k (a.frz c o u k h)⟩
theorem Imm.same {H H' : Hp} (e : Same H H') : Imm H H' := ⟨fun c xs h => e c _ h, fun c o u _ h => e c _ h⟩
theorem Imm.sameX {r : Addr} {H H' : Hp} (e : SameX r H H') (l : LstAt H r) : Imm H H' := by
  obtain ⟨ys, l⟩ := l
  exact ⟨fun c xs h => e c _ (fun z => by subst z; rw [l] at h; cases h) h, fun c o u _ h => e c _ (fun z => by subst z; rw [l] at h; cases h) h⟩
theorem Imm.upd {r : Addr} {H : Hp} {o : HO} (l : LstAt H r) : Imm H (upd H r o) := Imm.sameX SameX.upd l
theorem Imm.t {K : PySem.W.Frag} {H H' : Hp} {a : Addr} {xs : List V} (e : Imm H H') (h : SqT K H a xs) : SqT K H' a xs := by
  rcases h with (h | ⟨o, h⟩) | h
  · exact .inl (.inl (e.tup _ _ h))
  · exact .inl (.inr ⟨o, e.frz _ _ _ (.inl ⟨_, rfl⟩) h⟩)
  · exact .inr h
theorem IsG.imm {K : PySem.W.Frag} {H H' : Hp} {g : G} {v : V} (h : IsG K H g v) (e : Imm H H') : IsG K H' g v := h.mono fun _ _ => e.t
/-- the script: known to the object, or of the module -/
def Sc (K : PySem.W.Frag) (H : Hp) (a : Addr) (xs : List V) : Prop := (∃ o, H a = some (.frz o (.lst xs))) ∨
    ∃ (o : Obj) (its : Array Value) (n : Nat), K.lookup a = some o ∧ o.cls = .type "list" ∧ o.dict = none ∧ o.data = .seq its n ∧ its.size ≤ sizeLine ∧ Vals xs its.toList
theorem Sc.sql {K : PySem.W.Frag} {H : Hp} {a : Addr} {xs : List V} (h : Sc K H a xs) : SqL K H a xs := by
  rcases h with h | h
  · exact .inl (.inr h)
  · exact .inr h
theorem Sc.imm {K : PySem.W.Frag} {H H' : Hp} {a : Addr} {xs : List V} (h : Sc K H a xs) (e : Imm H H') : Sc K H' a xs := by
  rcases h with ⟨o, h⟩ | h
  · exact .inl ⟨o, e.frz _ _ _ (.inr ⟨_, rfl⟩) h⟩
  · exact .inr h
theorem Sc.of {K : PySem.W.Frag} {H : Hp} {a : Addr} {xs : List V} (O : Only H) (h : SqL K H a xs) : Sc K H a xs := by
  rcases h with (h | h) | h
  · rcases O a with z | ⟨o, ys, z⟩
    · rw [z] at h; cases h
    · rw [z] at h; cases h
  · exact .inl h
  · exact .inr h
/-- the law's row: the script, the next place, the mixed number -/
def Row (K : PySem.W.Frag) (H : Hp) (r : Addr) : Prop := ∃ (sc : Addr) (ns : List Int) (i s : Int), H r = some (.lst [.ref sc, .int i, .int s]) ∧ Sc K H sc (ns.map V.int) ∧ 0 ≤ i
theorem Row.at_ {K : PySem.W.Frag} {H : Hp} {r : Addr} (h : Row K H r) : LstAt H r := by
  obtain ⟨sc, ns, i, s, h, _⟩ := h
  exact ⟨_, h⟩
theorem Row.imm {K : PySem.W.Frag} {H H' : Hp} {r : Addr} (h : Row K H r) (e : Imm H H') (er : H' r = H r) : Row K H' r := by
  obtain ⟨sc, ns, i, s, h, hs, h0⟩ := h
  exact ⟨sc, ns, i, s, er.trans h, hs.imm e, h0⟩
theorem Row.same {K : PySem.W.Frag} {H H' : Hp} {r : Addr} (h : Row K H r) (e : Same H H') : Row K H' r := by
  obtain ⟨sc, ns, i, s, h, hs, h0⟩ := h
  exact ⟨sc, ns, i, s, e _ _ h, hs.imm (Imm.same e), h0⟩
theorem Row.upd {K : PySem.W.Frag} {H : Hp} {r D : Addr} {o : HO} (h : Row K H r) (l : LstAt H D) (n : D ≠ r) : Row K (upd H D o) r := h.imm (Imm.upd l) (upd_ne n.symm)
/-- what a draw promises -/
def spTaken (K : PySem.W.Frag) : Sp := fun vs H Q _ => ∃ (r : Addr) (m : Int), vs = [.ref r, .int m] ∧ Row K H r ∧ 0 < m ∧
  ∀ (x : Int) H', 0 ≤ x → x < m → SameX r H H' → Row K H' r → Q (.int x) H'
end St
namespace St
open PySem PySem.Spec PyProof.Rows L2
/-- the law's own guessers: within w others -/
def spGuesser (K : PySem.W.Frag) (n : Nat) : Sp := fun vs H Q _ => ∃ (r : Addr) (w : Nat), vs = [.ref r, .int (w : Int)] ∧ w < n ∧ Row K H r ∧
  ∀ (g : G) (v : V) H', SameX r H H' → Row K H' r → IsG K H' g v → good w g = true → Q v H'
theorem fn_zero {P : Program} {w : World} {K : PySem.W.Frag} {mg : Str → Option Value} {base : Heap} {CX : CXT} {k : Nat} {f : Addr} {fd : FuncData} {ps : List Str} {sp : Sp} (no : ∀ vs H Q E, ¬ sp vs H Q E) : FnOk P w K mg base CX k f fd ps sp :=
  ⟨fun vs H Q E h => absurd h (no vs H Q E), fun A outer s H args us vs Q E _ _ _ _ h => absurd h (no vs H Q E)⟩
theorem good_none (w : Nat) : good w (.leaf "none" []) = true := by unfold good; simp
theorem good_next {w : Nat} {n : Int} (h1 : 1 ≤ n) (h2 : n ≤ 3) : good w (.leaf "next" [n]) = true := by unfold good; simp [h1, h2]
theorem good_stride {w : Nat} {n : Int} (h1 : 1 ≤ n) (h2 : n ≤ 3) : good w (.leaf "stride" [n]) = true := by unfold good; simp [h1, h2]
theorem good_pairs {w : Nat} {n : Int} (h1 : 1 ≤ n) (h2 : n ≤ 2) : good w (.leaf "pairs" [n]) = true := by unfold good; simp [h1, h2]
end St
namespace St
open PySem PySem.Spec PyProof.Rows L2
theorem Row.nr {K : PySem.W.Frag} {H : Hp} {r p : Addr} (h : Row K H r) (np : H p = none) : p ≠ r := by
  obtain ⟨ys, hy⟩ := h.at_
  exact (ne_of_none hy np).symm
end St

/-! ### written dicts of numbers by texts -/
namespace St
open PySem PySem.Spec PyProof.Rows L2
def EntIs (p : Value × Value) (kv : Str × Int) : Prop := (∃ t, p.1 = .str kv.1 t) ∧ ∃ t, p.2 = .int kv.2 t
structure IDict (K : PySem.W.Frag) (w : World) (d : Addr) (kvs : List (Str × Int)) : Prop where
  ex : ∃ es n, KDict K w d es n ∧ Paired EntIs (es.toList.map fun e => (e.key, e.val)) kvs
theorem isStr_str (x z : Str) (t : Tok) : (Value.str x t).isStr z = (z == x) := by
  show (x == z) = (z == x)
  by_cases e : x = z
  · subst e; rfl
  · rw [beq_eq_false_iff_ne.mpr e, beq_eq_false_iff_ne.mpr (Ne.symm e)]
theorem find_ent (z : Str) : ∀ {es : List DictEntry} {kvs : List (Str × Int)}, Paired EntIs (es.map fun e => (e.key, e.val)) kvs →
    (kvs.lookup z = none ∧ es.find? (·.key.isStr z) = none ∧ es.any (·.refKey) = false) ∨ ∃ e n t, kvs.lookup z = some n ∧ es.find? (·.key.isStr z) = some e ∧ e.val = .int n t
  | [], [], .nil => .inl ⟨rfl, rfl, rfl⟩
  | e :: es, (k, n) :: kvs, .cons ⟨⟨t, h1⟩, ⟨t2, h2⟩⟩ r => by
    simp only at h1 h2
    by_cases c : z = k
    · subst c
      refine .inr ⟨e, n, t2, by simp [List.lookup], ?_, h2⟩
      rw [List.find?_cons, h1, isStr_str]
      simp
    · have c1 : (z == k) = false := beq_eq_false_iff_ne.mpr c
      rcases find_ent z r with ⟨a, b, d⟩ | ⟨e', n', t', a, b, d⟩
      · refine .inl ⟨by simp [List.lookup, c1, a], ?_, ?_⟩
        · rw [List.find?_cons, h1, isStr_str, c1]; exact b
        · rw [List.any_cons, d]
          have : e.refKey = false := by unfold DictEntry.refKey; rw [h1] <;> rfl
          rw [this]; rfl
      · refine .inr ⟨e', n', t', by simp [List.lookup, c1, a], ?_, d⟩
        rw [List.find?_cons, h1, isStr_str, c1]; exact b
theorem IDict.ns {K : PySem.W.Frag} {w : World} {d : Addr} {kvs : List (Str × Int)} (D : IDict K w d kvs) (z : Str) :
    (kvs.lookup z = none ∧ PySem.W.nsIn K d z = some none) ∨ ∃ n t, kvs.lookup z = some n ∧ PySem.W.nsIn K d z = some (some (.int n t)) := by
  obtain ⟨es, n, D, p⟩ := D.ex
  unfold PySem.W.nsIn
  rw [D.at_]
  rcases find_ent z p with ⟨a, b, c⟩ | ⟨e, n', t, a, b, c⟩
  · refine .inl ⟨a, ?_⟩
    simp only [b, c]
    rfl
  · refine .inr ⟨n', t, a, ?_⟩
    simp only [b, c]
section
variable {X : Cx} {d : Addr} {kvs : List (Str × Int)}
def rInI (d : Addr) (kvs : List (Str × Int)) : R2 := fun x y H Q => ∃ z, x = .str z ∧ y = .ref d ∧ Q (.bl (kvs.lookup z).isSome) H
def rNotInI (d : Addr) (kvs : List (Str × Int)) : R2 := fun x y H Q => ∃ z, x = .str z ∧ y = .ref d ∧ Q (.bl (!(kvs.lookup z).isSome)) H
def rIxI (d : Addr) (kvs : List (Str × Int)) : R2 := fun x y H Q => ∃ z n, x = .ref d ∧ y = .str z ∧ kvs.lookup z = some n ∧ Q (.int n) H
theorem op_in_id (D : IDict X.K X.w d kvs) : OpR X (compareOp .In) (rInI d kvs) := by
  obtain ⟨es, n, KD, _⟩ := D.ex
  intro pins s σ H x y v u Q I rx ry ⟨z, h1, h2, q⟩
  rcases D.ns z with ⟨a, b⟩ | ⟨m, t, a, b⟩
  · rw [a] at q
    exact op_in_kd KD pins s σ H x y v u Q I rx ry ⟨z, _, h1, h2, b, q⟩
  · rw [a] at q
    exact op_in_kd KD pins s σ H x y v u Q I rx ry ⟨z, _, h1, h2, b, q⟩
theorem op_notIn_id (D : IDict X.K X.w d kvs) : OpR X (compareOp .NotIn) (rNotInI d kvs) := by
  obtain ⟨es, n, KD, _⟩ := D.ex
  intro pins s σ H x y v u Q I rx ry ⟨z, h1, h2, q⟩
  rcases D.ns z with ⟨a, b⟩ | ⟨m, t, a, b⟩
  · rw [a] at q
    exact op_notIn_kd KD pins s σ H x y v u Q I rx ry ⟨z, _, h1, h2, b, q⟩
  · rw [a] at q
    exact op_notIn_kd KD pins s σ H x y v u Q I rx ry ⟨z, _, h1, h2, b, q⟩
theorem ix_id (D : IDict X.K X.w d kvs) : IxR X (rIxI d kvs) := by
  obtain ⟨es, nn, KD, _⟩ := D.ex
  intro value slice pins s σ H x y v u Q I rx ry ⟨z, m, h1, h2, h3, q⟩ hs
  rcases D.ns z with ⟨a, b⟩ | ⟨m', t, a, b⟩
  · rw [a] at h3; cases h3
  · rw [a] at h3; cases h3
    exact ix_kdict value slice pins s σ H x y v u Q I rx ry ⟨d, z, .int m, h1, h2, ⟨es, nn, _, KD.at_, KD.lit, b, ⟨t, rfl⟩⟩, q⟩ hs
end
theorem iteY {c A B : Prop} [Decidable c] (h : c) (a : A) : if c then A else B := by rw [if_pos h]; exact a
theorem iteN {c A B : Prop} [Decidable c] (h : ¬ c) (b : B) : if c then A else B := by rw [if_neg h]; exact b
theorem iteB {b : Bool} {A B : Prop} (e : b = true) (a : A) : if b = true then A else B := by rw [if_pos e]; exact a
theorem iteB0 {b : Bool} {A B : Prop} (e : b = false) (a : B) : if b = true then A else B := by rw [e, if_neg Bool.false_ne_true]; exact a
/-- the guessers' tables -/
structure Tab (K : PySem.W.Frag) (w : World) (mg : Str → Option Value) (dS dM : Addr) : Prop where
  g_SORTS : mg "SORTS" = some (.ref dS)
  i_SORTS : IDict K w dS sortsL
  g_MOST_OF : mg "MOST_OF" = some (.ref dM)
  i_MOST_OF : IDict K w dM mostL
  g_MOST_WITHIN : ∃ t, mg "MOST_WITHIN" = some (.int 3 t)
def spIs (K : PySem.W.Frag) (n : Nat) : Sp := fun vs H Q _ => ∃ (v : V) (g : G) (w : Nat), vs = [v, .int (w : Int)] ∧ IsG K H g v ∧ WfG g ∧ w ≤ 4 ∧ 5 ≤ w + n ∧ ∀ H', Same H H' → Q (.bl (isG w g)) H'
end St
namespace St
open PySem PySem.Spec PyProof.Rows L2
section
variable {X : Cx}
theorem pe_gref {x : Str} {a : Addr} {pos : Pos} (hg : Gl X x) (hm : X.mg x = some (.ref a)) (hd : (x == ("__debug__" : Str)) = false := by decide) : PE X (.Name x pos) (tC (.ref a)) := pe_glob hg hm (v := .ref a) rfl hd
theorem pe_gint {x : Str} {i : Int} {pos : Pos} (hg : Gl X x) (hm : ∃ t, X.mg x = some (.int i t)) (hd : (x == ("__debug__" : Str)) = false := by decide) : PE X (.Name x pos) (tC (.int i)) := by
  obtain ⟨t, hm⟩ := hm
  exact pe_glob hg hm (v := .int i) ⟨t, rfl⟩ hd
theorem pe_gstr {x : Str} {i : Str} {pos : Pos} (hg : Gl X x) (hm : ∃ t, X.mg x = some (.str i t)) (hd : (x == ("__debug__" : Str)) = false := by decide) : PE X (.Name x pos) (tC (.str i)) := by
  obtain ⟨t, hm⟩ := hm
  exact pe_glob hg hm (v := .str i) ⟨t, rfl⟩ hd
end
end St
namespace St
open PySem PySem.Spec PyProof.Rows L2
theorem sorts_cases {z : Str} {k : Int} (h : sortsL.lookup z = some k) : (z = "none" ∧ k = 1) ∨ (z = "next" ∧ k = 2) ∨ (z = "stride" ∧ k = 2) ∨ (z = "pairs" ∧ k = 2) ∨ (z = "both" ∧ k = 3) := by
  unfold sortsL at h
  simp only [List.lookup] at h
  repeat' split at h
  all_goals first | (cases h; done) | skip
  all_goals (rename_i e; have e' := eq_of_beq e; cases h; simp [e'])
theorem sorts_most {z : Str} {k : Int} (h : sortsL.lookup z = some k) (h1 : z ≠ ("none" : Str)) (h2 : z ≠ ("both" : Str)) : k = 2 ∧ ∃ m, mostL.lookup z = some m := by
  rcases sorts_cases h with ⟨e, _⟩ | ⟨rfl, e⟩ | ⟨rfl, e⟩ | ⟨rfl, e⟩ | ⟨e, _⟩
  · exact absurd e h1
  · exact ⟨e, 3, rfl⟩
  · exact ⟨e, 3, rfl⟩
  · exact ⟨e, 2, rfl⟩
  · exact absurd e h2
end St
/-! ### data of any depth -/
namespace St
open PySem PySem.Spec PyProof.Rows L2
theorem dmono {K : PySem.W.Frag} {H H' : Hp} (fL : ∀ a xs, SqL K H a xs → SqL K H' a xs) (fT : ∀ a xs, SqT K H a xs → SqT K H' a xs) {v : V} {d : PyData} (h : Dp K H v d) : Dp K H' v d := by
  refine Dp.rec (motive_1 := fun v d _ => Dp K H' v d) (motive_2 := fun vs ds _ => DpAll K H' vs ds) ?_ ?_ ?_ ?_ ?_ ?_ ?_ ?_ h
  · exact .non
  · exact fun b => .bl b
  · exact fun i => .int i
  · exact fun x => .str x
  · exact fun h _ ih => .lst (fL _ _ h) ih
  · exact fun h _ ih => .tup (fT _ _ h) ih
  · exact .nil
  · exact fun _ _ a b => .cons a b
theorem dsame {K : PySem.W.Frag} {H H' : Hp} {v : V} {d : PyData} (h : Dp K H v d) (e : Same H H') : Dp K H' v d := dmono (fun _ _ => same_l e) (fun _ _ => same_t e) h
theorem dsameA {K : PySem.W.Frag} {H H' : Hp} (e : Same H H') : ∀ {vs : List V} {ds : List PyData}, DpAll K H vs ds → DpAll K H' vs ds
  | _, _, .nil => .nil
  | _, _, .cons a b => .cons (dsame a e) (dsameA e b)
theorem dlen {K : PySem.W.Frag} {H : Hp} : ∀ {vs : List V} {ds : List PyData}, DpAll K H vs ds → vs.length = ds.length
  | _, _, .nil => rfl
  | _, _, .cons _ b => congrArg (· + 1) (dlen b)
theorem dat {K : PySem.W.Frag} {H : Hp} : ∀ {vs : List V} {ds : List PyData} {i : Nat} {d : PyData}, DpAll K H vs ds → ds[i]? = some d → ∃ v, vs[i]? = some v ∧ Dp K H v d
  | _, _, 0, _, .cons a _, e => ⟨_, rfl, by cases Option.some.inj e; exact a⟩
  | _, _, i + 1, _, .cons _ b, e => dat (i := i) b e
/-- how deep -/
def dep : Nat → PyData → Prop
  | 0, _ => False
  | n + 1, .list ds => ds.length ≤ 100000 ∧ ∀ d ∈ ds, dep n d
  | n + 1, .tuple ds => ds.length ≤ 100000 ∧ ∀ d ∈ ds, dep n d
  | _ + 1, _ => True
def spAlike (K : PySem.W.Frag) (n : Nat) : Sp := fun vs H Q _ => ∃ (v1 v2 : V) (d : PyData), vs = [v1, v2] ∧ Dp K H v1 d ∧ Dp K H v2 d ∧ dep n d ∧ ∀ H', Same H H' → Q (.bl true) H'
theorem tup_list {K : PySem.W.Frag} {T : String} (h : T = "tuple" ∨ T = "list") : PySem.W.kitAny K (.type T) [.type "tuple", .type "list"] = some true := by
  rcases h with rfl | rfl
  · exact kitAny_cons (kit_ty (r := true) (by decide +kernel)) (fun h => nomatch h) fun _ => rfl
  · exact kitAny_cons (kit_ty (r := false) (by decide +kernel)) (fun _ => kitAny_cons (kit_ty (r := true) (by decide +kernel)) (fun h => nomatch h) fun _ => rfl) fun h => nomatch h
end St
/-! ### rules for within a comprehension: the frag is told -/
namespace St
open PySem PySem.Spec PyProof.Rows L2
section
variable {X : Cx} {K : PySem.W.Frag}
theorem ix_listK (h : X.K = K := by rfl) : IxR X (rIxL K) := h ▸ ix_list
theorem ix_tupK (h : X.K = K := by rfl) : IxR X (rIxT K) := h ▸ ix_tup
theorem ix_seqK (h : X.K = K := by rfl) : IxR X (rIx K) := h ▸ ix_seq
def rLen (K : PySem.W.Frag) : List V → Hp → VK → Prop := fun xs H Q => ∃ p ys, xs = [.ref p] ∧ (SqL K H p ys ∨ SqT K H p ys) ∧ Q (.int ys.length) H
theorem call_lenK (h : X.K = K := by rfl) : CallR X (.builtin "len") (rLen K) := h ▸ call_len_seq
theorem in_seqK (h : X.K = K := by rfl) : OpR X (compareOp .In) (rIn K false) := h ▸ op_in_seq
theorem notIn_seqK (h : X.K = K := by rfl) : OpR X (compareOp .NotIn) (rIn K true) := h ▸ op_notIn_seq
end
end St

local macro_rules
  | `(tactic| infer_instance) => `(tactic| first
    | assumption
    | exact L2.upd_same
    | (refine St.same_upd (by assumption) _ _ ?_; infer_instance)
    | (refine (show L2.Same _ _ by assumption) _ _ ?_; infer_instance)
    | (refine (show St.SameX _ _ _ by assumption) _ _ (by assumption) ?_; infer_instance)
    | (refine Or.inl (Or.inl ?_); infer_instance))
local macro_rules
  | `(tactic| and_intros) => `(tactic| repeat (first
    | refine ⟨_, rfl, ?_⟩
    | refine ⟨rfl, ?_⟩
    | refine ⟨_, _, rfl, rfl, ?_⟩
    | refine ⟨_, _, _, _, rfl, rfl, (by infer_instance), (by first | rfl | exact L2.atI_nat (j := 0) rfl | exact L2.atI_nat (j := 1) rfl | exact L2.atI_nat (j := 2) rfl), ?_⟩
    | refine ⟨_, _, rfl, (by first | (refine Or.inl ?_; infer_instance) | (refine Or.inr ?_; infer_instance)), ?_⟩
    | refine ⟨_, _, rfl, (show L2.SqL _ _ _ _ by infer_instance), ?_⟩
    | refine ⟨_, _, _, _, true, rfl, L2.ClsV.ty _, (by assumption), L2.kit_ty (by decide +kernel), ?_⟩
    | refine ⟨_, _, _, _, false, rfl, L2.ClsV.ty _, (by assumption), L2.kit_ty (by decide +kernel), ?_⟩
    | refine And.intro (by first | decide | with_reducible exact St.sz_1 | with_reducible exact St.sz_2 | with_reducible exact St.sz_3 | with_reducible exact St.sz_4 | with_reducible exact St.sz_5 | with_reducible exact St.sz_6 | with_reducible exact St.sz_7 | with_reducible exact St.sz_8 | assumption | omega | (refine Or.inr ?_; decide) | (show (_ : Int) < _; first | decide | assumption | omega) | exact Or.inr ⟨by decide, by decide⟩ | exact ⟨by decide, by decide⟩) ?_))
local macro_rules
  | `(tactic| ac_rfl) => `(tactic| first
    | assumption
    | exact L2.Same.refl _
    | exact St.SameX.refl _ _
    | (refine L2.Same.trans ?_ (St.same_upd (by assumption)); ac_rfl)
    | (refine St.SameX.trans ?_ (St.SameX.of (St.same_upd (by assumption))); ac_rfl)
    | (refine L2.Same.trans ?_ (show L2.Same _ _ by assumption); ac_rfl)
    | (refine St.SameX.trans ?_ (St.SameX.of (show L2.Same _ _ by assumption)); ac_rfl)
    | (refine St.SameX.trans ?_ (show St.SameX _ _ _ by assumption); ac_rfl))

namespace St
open PySem PySem.Spec PyProof.Rows L2
def topS (i : Nat) : Stmt := PySem.Challenge.pw_stridewell_k07_whole_the_worst_row.main.body.getD i (.Pass ⟨0, 0, 0, 0⟩)
end St

namespace St
open PySem PySem.Spec PyProof.Rows L2
theorem eqV_int (a b : Int) : eqV (.int a) (.int b) = decide (a = b) := by
  show (a == b) = _
  exact Bool.beq_eq_decide_eq ..
theorem inV_ints (g : Int) : ∀ l : List Int, inV (.int g) (l.map V.int) = decide (g ∈ l)
  | [] => by simp [inV]
  | a :: r => by
    have ih := inV_ints g r
    unfold inV at ih ⊢
    rw [List.map_cons, List.any_cons, ih, eqV_int]
    by_cases c : a = g
    · subst c; simp
    · by_cases d : g ∈ r
      · simp [c, d]
      · simp [c, d, Ne.symm c]
theorem flat_ints : ∀ l : List Int, (l.map V.int).all flatV = true
  | [] => rfl
  | _ :: r => by rw [List.map_cons, List.all_cons, flat_ints r]; rfl
theorem at_ints {l : List Int} {i : Nat} {y : V} (h : (l.map V.int)[i]? = some y) : ∃ x, y = .int x ∧ l[i]? = some x ∧ l.take (i + 1) = l.take i ++ [x] := by
  rw [List.getElem?_map] at h
  cases e : l[i]? with
  | none => rw [e] at h; cases h
  | some m =>
    rw [e] at h
    cases Option.some.inj h
    exact ⟨m, rfl, rfl, by rw [List.take_add_one, e]; rfl⟩
theorem filter_snoc {α : Type} (f : α → Bool) (l : List α) (x : α) : (l ++ [x]).filter f = l.filter f ++ if f x then [x] else [] := by
  rw [List.filter_append, List.filter_cons]
  split <;> simp
theorem samex_mut {r : Addr} {H H' : Hp} {p : Addr} {o : HO} (e : SameX r H H') (h : H p = none) : SameX r H (upd H' p o) := fun a u n ha => by
  rw [upd_ne (ne_of_none ha h)]
  exact e a u n ha
theorem dp_ints {K : PySem.W.Frag} {H : Hp} {p : Addr} {ns : List Int} (h : SqL K H p (ns.map V.int)) : Dp K H (.ref p) (.list (ns.map PyData.int)) := by
  refine .lst h ?_
  have : ∀ l : List Int, DpAll K H (l.map V.int) (l.map PyData.int) := by
    intro l
    induction l with
    | nil => exact .nil
    | cons a r ih => exact .cons (.int a) ih
  exact this ns
theorem lay_ints (ns : List Int) : SeqAt.shaped (.list (ns.map PyData.int)) = true := by
  have h1 : ∀ l : List Int, PyData.depthAll (l.map PyData.int) = 0 := by
    intro l
    induction l with
    | nil => rfl
    | cons a r ih => simp [PyData.depthAll, PyData.depth, ih]
  have h2 : ∀ l : List Int, PyData.canLayAll0 (l.map PyData.int) = true := by
    intro l
    induction l with
    | nil => rfl
    | cons a r ih => simp [PyData.canLayAll0, PyData.canLay0, ih]
  unfold SeqAt.shaped
  rw [Bool.and_eq_true]
  refine ⟨?_, decide_eq_true ?_⟩
  · simp only [PyData.canLay0]
    exact h2 ns
  · simp only [PyData.depth]
    rw [h1 ns]
    decide
theorem eqv_ints (a b : List Int) : PyData.eqv (.list (a.map PyData.int)) (.list (b.map PyData.int)) = decide (a = b) := by
  simp only [PyData.eqv]
  induction a generalizing b with
  | nil =>
    cases b with
    | nil => simp [PyData.eqvAll]
    | cons y ys => simp [PyData.eqvAll]
  | cons x xs ih =>
    cases b with
    | nil => simp [PyData.eqvAll]
    | cons y ys =>
      simp only [List.map_cons, PyData.eqvAll, PyData.eqv, ih ys, Bool.beq_eq_decide_eq]
      by_cases c : x = y
      · subst c; simp
      · simp [c]
theorem atI_ints {ns : List Int} {x : Int} (h0 : 0 ≤ x) (h1 : x < (ns.length : Nat)) : ∃ y, atI (ns.map V.int) x = some (.int y) ∧ ns[x.toNat]? = some y := by
  obtain ⟨k, rfl⟩ : ∃ k : Nat, x = (k : Int) := ⟨x.toNat, by omega⟩
  have hk : k < ns.length := by omega
  exact ⟨ns[k], atI_nat (by rw [List.getElem?_map, List.getElem?_eq_getElem hk]; rfl), by rw [Int.toNat_natCast, List.getElem?_eq_getElem hk]⟩
theorem cut_to {xs : List V} {k : Int} (h : 0 ≤ k) : cutV xs none (some k) = xs.take k.toNat := by
  obtain ⟨m, rfl⟩ : ∃ m : Nat, k = (m : Int) := ⟨k.toNat, by omega⟩
  unfold cutV
  rw [HT.sIx_none, HT.sIx_nat, List.drop_zero, Int.toNat_natCast]
  by_cases c : m ≤ xs.length
  · rw [Nat.min_eq_left c]; rfl
  · rw [Nat.min_eq_right (by omega), List.take_of_length_le (by omega), List.take_of_length_le (by omega)]
theorem cut_from {xs : List V} {k : Int} (h : 0 ≤ k) : cutV xs (some k) none = xs.drop k.toNat := by
  obtain ⟨m, rfl⟩ : ∃ m : Nat, k = (m : Int) := ⟨k.toNat, by omega⟩
  unfold cutV
  rw [HT.sIx_none, HT.sIx_nat, Int.toNat_natCast]
  by_cases c : m ≤ xs.length
  · rw [Nat.min_eq_left c, List.take_of_length_le (by rw [List.length_drop]; exact Nat.le_refl _)]
  · rw [Nat.min_eq_right (by omega), List.drop_of_length_le (Nat.le_refl _), List.drop_of_length_le (by omega), List.take_nil]
theorem at_last {ps : List Int} {p : Int} (h : ps.getLast? = some p) : atI (ps.map V.int) (-1) = some (.int p) := by
  have hp : ps ≠ [] := by rintro rfl; cases h
  have hl : 0 < ps.length := List.length_pos_iff.mpr hp
  unfold atI ixN
  rw [List.length_map, if_neg (by decide), if_pos (by omega)]
  show (ps.map V.int)[_]? = _
  rw [List.getElem?_map]
  have e : (-1 + (ps.length : Int)).toNat = ps.length - 1 := by omega
  rw [List.getLast?_eq_getElem?] at h
  rw [show ps[_]? = ps[ps.length - 1]? from congrArg (fun z => ps[z]?) (by omega), h]
  rfl
theorem at_ps {ps : List Int} {i : Nat} {z : Int} (e : z = (i : Int)) (h : i < ps.length) : atI (ps.map V.int) z = some (.int (ps.getD i 0)) := by
  subst e
  refine atI_nat ?_
  rw [List.getElem?_map, List.getD_eq_getElem?_getD, List.getElem?_eq_getElem h]
  rfl
theorem flat_rep (x : Int) : ∀ k : Nat, (List.replicate k [V.int x]).flatten = (List.replicate k x).map V.int
  | 0 => rfl
  | k + 1 => by rw [List.replicate_succ, List.flatten_cons, flat_rep x k, List.replicate_succ]; rfl
theorem sl_listK {X : Cx} {K : PySem.W.Frag} (h : X.K = K := by rfl) : SlR X (rSlL K) := h ▸ sl_list
theorem paired_r {α β : Type} {F : α → β → Prop} : ∀ {l₁ : List α} {l₂ : List β}, Paired F l₁ l₂ → ∀ b ∈ l₂, ∃ a, F a b
  | _, _, .nil, _, hb => nomatch hb
  | _, _, .cons h t, b, hb => by
    rcases List.mem_cons.mp hb with rfl | hb
    · exact ⟨_, h⟩
    · exact paired_r t b hb
theorem paired_l {α β : Type} {F : α → β → Prop} : ∀ {l₁ : List α} {l₂ : List β}, Paired F l₁ l₂ → ∀ a ∈ l₁, ∃ b, F a b
  | _, _, .nil, _, hb => nomatch hb
  | _, _, .cons h t, b, hb => by
    rcases List.mem_cons.mp hb with rfl | hb
    · exact ⟨_, h⟩
    · exact paired_l t b hb
theorem neD_K {X : Cx} {K : PySem.W.Frag} (hu : X.A.units + 64 < cLine) (h : X.K = K := by rfl) : OpR X (compareOp .NotEq) (rNeD K) := h ▸ op_neD hu
theorem eqD_K {X : Cx} {K : PySem.W.Frag} (hu : X.A.units + 64 < cLine) (h : X.K = K := by rfl) : OpR X (compareOp .Eq) (rEqD K) := h ▸ op_eqD hu
end St

namespace St
open PySem PySem.Spec PyProof.Rows L2
section
variable {X : Cx} {es : List Expr} {t : TA} {pos : Pos}
/-- a tuple's display; its object bears no dict -/
def tTupF (t : TA) : TE := fun σ H Q => t σ H fun xs H1 => xs.length ≤ sizeLine ∧ ∀ p (o : Obj), H1 p = none → o.dict = none → Q (.ref p) (upd H1 p (.frz o (.tup xs)))
theorem pe_tupF {x1} (h : PA X es t) : PE X (.Tuple es x1 pos) (tTupF t) := by
  refine ⟨fun pins s σ H Q I hq => wpAny_Tuple_spliced (thn (h.run pos pins s σ H _ I hq) fun us s1 hz => ?_)⟩
  obtain ⟨xs, H1, I1, r, z, q⟩ := hz
  refine ⟨by rw [← r.length]; exact z, ?_⟩
  have new : (s1.heap.push { cls := .type "tuple", data := .seq us.toArray }).get? s1.heap.objs.size = some { cls := .type "tuple", data := .seq us.toArray } := Heap.get?_push_size _ rfl
  exact ⟨.ref s1.heap.objs.size, _, I1.laid (t' := s1.toks) (o := .frz { cls := .type "tuple", data := .seq us.toArray } (.tup xs)) (fun b u e => Heap.get?_push_of_some _ e) (Nat.le_refl _) ⟨new, z, us, r, _, new, rfl, _, rfl⟩, rfl, q _ _ (I1.hok.fresh (Nat.le_refl _)) rfl⟩
/-- tuple(xs) of a list; its object bears no dict -/
def rTupF (K : PySem.W.Frag) : List V → Hp → VK → Prop := fun xs H Q => ∃ p ys, xs = [.ref p] ∧ SqL K H p ys ∧ ∀ l (o : Obj), H l = none → o.dict = none → Q (.ref l) (upd H l (.frz o (.tup ys)))
theorem call_tupF : CallR X (.type "tuple") (rTupF X.K) := by
  intro pins s σ H xs us Q I r h
  obtain ⟨p, ys, rfl, hq, q⟩ := h
  obtain ⟨u, rfl, rx⟩ := vals1 r
  cases rx
  obtain ⟨its, r', pl, hz⟩ := I.list hq
  have hl := r'.length
  refine call_tuple_list pl.isList (fun h' kp => ?_) (by simp only [List.size_toArray] <;> omega)
  have I1 : Inv X pins σ H { s with heap := h' } := I.kept (t' := s.toks) kp
  have new : (h'.push { cls := .type "tuple", data := .seq its.toArray }).get? h'.objs.size = some { cls := .type "tuple", data := .seq its.toArray } := Heap.get?_push_size _ rfl
  exact ⟨.ref h'.objs.size, _, I1.laid (t' := s.toks) (o := .frz { cls := .type "tuple", data := .seq its.toArray } (.tup ys)) (fun b o e => Heap.get?_push_of_some _ e) (Nat.le_refl _) ⟨new, hz, its, r', _, new, rfl, _, rfl⟩, rfl, q _ _ (I1.hok.fresh (Nat.le_refl _)) rfl⟩
/-! ### dict(t), t a tuple of pairs -/
theorem pairs_tab {pins : List (Addr × Obj)} {σ : L2.St} {H : Hp} {s : Shared} (I : L2.Inv X pins σ H s) : ∀ {ps : List Addr} {kvs : List (Key × V)}, Paired (fun p kv => SqT X.K H p [kV kv.1, kv.2]) ps kvs →
    ∃ (prs : List (Key × Value)) (us : List Value), KV kvs prs ∧ prs.length = ps.length ∧ us.length = ps.length ∧ ∀ (j : Nat) (q : Key × Value) (b : Addr) (u : Value), prs[j]? = some q → ps[j]? = some b → us[j]? = some u → IsTup s.heap b #[u, q.2] ∧ keyIs q.1 u = true
  | _, _, .nil => ⟨[], [], .nil, rfl, rfl, fun j q b u e => by simp at e⟩
  | _, _, .cons (a := p) (b := kv) h t => by
    obtain ⟨prs, us, r, h1, h2, h3⟩ := pairs_tab I t
    obtain ⟨its, rv, ht, _⟩ := I.tuple h
    obtain ⟨u, y, ei, ru, ry⟩ := vals2 rv
    subst ei
    refine ⟨(kv.1, y) :: prs, u :: us, .cons ⟨rfl, ry⟩ r, congrArg (· + 1) h1, congrArg (· + 1) h2, fun j q b u' e1 e2 e3 => ?_⟩
    cases j with
    | zero =>
      cases Option.some.inj e1
      cases Option.some.inj e2
      cases Option.some.inj e3
      exact ⟨ht, kV_is (P := X.prog) (w := X.w) ru⟩
    | succ j => exact h3 j q b u' e1 e2 e3
def rDictT (K : PySem.W.Frag) : List V → Hp → VK → Prop := fun xs H Q => ∃ (a : Addr) (o : Obj) (ps : List Addr) (kvs : List (Key × V)), xs = [.ref a] ∧ H a = some (.frz o (.tup (ps.map V.ref))) ∧ o.dict = none ∧ Paired (fun p kv => SqT K H p [kV kv.1, kv.2]) ps kvs ∧
  ∀ p, H p = none → Q (.ref p) (upd H p (.dK (mergeK [] kvs)))
theorem call_dictT (hcalm : X.calm = true) : CallR X (.type "dict") (rDictT X.K) := by
  intro pins s σ H xs us Q I r h
  obtain ⟨a, o, ps, kvs, rfl, ha, hd, hp, q⟩ := h
  obtain ⟨u, rfl, rx⟩ := vals1 r
  cases rx
  obtain ⟨ho, hz, its, rv, o', ho', hc, n, hdat⟩ := (show ObjOk X.prog X.w H s.heap a (.frz o (.tup (ps.map V.ref))) from I.hok a _ ha)
  have eo : o' = o := Option.some.inj (ho'.symm.trans ho)
  subst eo
  have ei := refs_at rv
  subst ei
  rw [List.length_map] at hz
  obtain ⟨prs, ks, rel, l1, l2, l3⟩ := pairs_tab I hp
  have lz : (ks.zip (prs.map (·.2))).length = ps.length := by rw [List.length_zip, List.length_map, l1, l2, Nat.min_self]
  have PI : PairItems s.heap (ps.map Value.ref).toArray (fun j => ps.getD j 0) (ks.zip (prs.map (·.2))) := by
    refine ⟨by rw [lz]; simp, fun j k v e => ?_⟩
    obtain ⟨e1, e2⟩ := List.getElem?_zip_eq_some.mp e
    have hj : j < ps.length := by
      rw [← l2]
      exact (List.getElem?_eq_some_iff.mp e1).1
    have e3 : ps[j]? = some (ps.getD j 0) := by rw [List.getD_eq_getElem?_getD, List.getElem?_eq_getElem hj]; rfl
    rw [List.getElem?_map] at e2
    cases e4 : prs[j]? with
    | none => rw [e4] at e2; cases e2
    | some p =>
      rw [e4] at e2
      cases Option.some.inj e2
      refine ⟨by rw [List.getElem?_toArray, List.getElem?_map, e3]; rfl, .inl ?_⟩
      exact (l3 j p _ k e4 e3 e1).1
  refine _root_.PySem.call_dict_pairs (A := X.A) (knd := mixKind X.prog X.w) (kvs := prs) (PairArg.tuple a (ps.map Value.ref).toArray (fun j => ps.getD j 0) (ks.zip (prs.map (·.2)))) (I.ok.hd hcalm) ⟨⟨o', n, ho, hc, hd, hdat⟩, PI⟩ ⟨by rw [lz, l1], fun i key v e => ?_⟩ (by rw [lz]; exact hz) fun h' tk hd' k => ?_
  · obtain ⟨e1, e2⟩ := List.getElem?_zip_eq_some.mp (show (ks.zip (prs.map (·.2)))[i]? = some (key, v) from e)
    have hj : i < ps.length := by
      rw [← l2]
      exact (List.getElem?_eq_some_iff.mp e1).1
    rw [List.getElem?_map] at e2
    cases e4 : prs[i]? with
    | none => rw [e4] at e2; cases e2
    | some p =>
      rw [e4] at e2
      cases Option.some.inj e2
      exact ⟨p.1, rfl, (l3 i p _ key e4 (List.getElem?_eq_getElem hj) e1).2⟩
  · have big : (s.heap.objs.size == sysModules) = false := beq_eq_false_iff_ne.mpr (Nat.ne_of_gt I.big)
    have hl : (mergeK [] kvs).length ≤ sizeLine := by
      have z := length_mergeK kvs []
      rw [List.length_nil, Nat.zero_add, rel.length, l1] at z
      exact Nat.le_trans z hz
    exact ⟨.ref s.heap.objs.size, _, I.laid (t' := tk) (o := .dK (mergeK [] kvs)) (fun b o e => k b o (fun z => nomatch z) e) (Nat.le_refl _) ⟨hl, big, merged [] prs, KV.merge rel .nil, hd'⟩, rfl, q _ (I.hok.fresh (Nat.le_refl _))⟩
end
end St

/-! ### d.items(), sorted of them: keys ints, all unlike -/
namespace St
open PySem PySem.Spec PyProof.Rows L2
theorem pairs_get {P : Program} {w : World} : ∀ {es : List DictEntry} {vs : List (Key × Value)} {j : Nat} {e : DictEntry}, Pairs (mixKind P w) es vs → es[j]? = some e → ∃ kv, vs[j]? = some kv ∧ keyIs kv.1 e.key = true ∧ e.val = kv.2
  | _, _, j, e, .nil, h => by simp at h
  | _, _, 0, e, .cons h1 h2 _, h => by cases Option.some.inj h; exact ⟨_, rfl, h1, h2⟩
  | _, _, j + 1, e, .cons _ _ r, h => pairs_get (j := j) r h
theorem kv_get : ∀ {kvs : List (Key × V)} {vs : List (Key × Value)} {j : Nat} {q : Key × Value}, KV kvs vs → vs[j]? = some q → ∃ p, kvs[j]? = some p ∧ p.1 = q.1 ∧ RelV p.2 q.2
  | _, _, j, q, .nil, h => by simp at h
  | _, _, 0, q, .cons h1 _, h => by cases Option.some.inj h; exact ⟨_, rfl, h1.1, h1.2⟩
  | _, _, j + 1, q, .cons _ r, h => kv_get (j := j) r h
def rItemsK : V → List V → Hp → VK → Prop := fun x xs H Q => ∃ (a : Addr) (kvs : List (Key × V)), x = .ref a ∧ xs = [] ∧ H a = some (.dK kvs) ∧ ∀ p, H p = none → Q (.ref p) (upd H p (DX.itemsO p a))
section
variable {X : Cx}
theorem mt_itemsK : MtR X "dict.items" rItemsK := by
  intro pins s σ H x xs v us Q I rx rxs h
  obtain ⟨a, kvs, rfl, rfl, ha, q⟩ := h
  cases rx
  cases rxs
  obtain ⟨z, hd, vs, rel, o, es, ep, ho, hx, hdat, _⟩ := dk_of I.hok ha
  refine DT.callItems (es := es) (ep := ep) hd ⟨o, ho, hx, hdat⟩ ?_
  exact ⟨.ref s.heap.objs.size, _, I.laid (t' := s.toks) (o := DX.itemsO s.heap.objs.size a) (fun b u e => Heap.get?_push_of_some _ e) (Nat.le_refl _) (DX.itemsO_ok (Heap.get?_push_size _ rfl)), rfl, q _ (I.hok.fresh (Nat.le_refl _))⟩
end
/-! the order of pairs whose first items are ints, all unlike -/
def intOf : Option Value → Int
  | some (.int i _) => i
  | _ => 0
/-- the first int of the pair v, read off the heap -/
def fst1 (h : Heap) (v : Value) : Int := intOf (DT.seqAt0 h (DT.refOf (some v)))
/-- v is a pair (k, y) -/
def PairK (h : Heap) (v : Value) (k : Int) (y : Value) : Prop := ∃ (a : Addr) (t : Tok), v = .ref a ∧ IsTup h a #[.int k t, y]
theorem PairK.fst {h : Heap} {v : Value} {k : Int} {y : Value} (x : PairK h v k y) : fst1 h v = k := by
  obtain ⟨a, t, rfl, p⟩ := x
  show intOf (DT.seqAt0 h a) = k
  rw [DT.seqAt0_of p]
  rfl
theorem PairK.keeps {h h' : Heap} {v : Value} {k : Int} {y : Value} (x : PairK h v k y) (f : ∀ b o, h.get? b = some o → o.cls = .type "tuple" → h'.get? b = some o) : PairK h' v k y := by
  obtain ⟨a, t, e, o, ho, hc, r⟩ := x
  exact ⟨a, t, e, o, f _ _ ho hc, hc, r⟩
section
variable {prog : Program} {w : World} {A : Around} {E : Value → Shared → Prop} {s : Shared}
theorem eqBool_self {v : Value} {Q : Bool → Shared → Prop} (h : Q true s) : wpAny (model prog w) A (eqBool v v) Q E s := by
  unfold eqBool
  refine wpAny_holding ?_
  rw [if_pos (beq_self_eq_true v)]
  exact wpAny_bind (wpAny_rule (wpAny_pure h))
theorem swo_fst (k : Value → Int) : SrtO.Swo fun v u => decide (k v < k u) := by
  refine ⟨fun x y h => ?_, fun x y z h1 h2 => ?_⟩
  · have a := of_decide_eq_true h
    exact decide_eq_false (by omega)
  · have a := of_decide_eq_false h1
    have b := of_decide_eq_false h2
    exact decide_eq_false (by omega)
theorem firsts_K {h : Heap} : ∀ vs : List Value, (∀ v ∈ vs, ∃ k y, PairK h v k y) → ∃ fs : List Value, PySem.W.KatTups h vs fs ∧ fs.length = vs.length ∧ ∀ f ∈ fs, ∃ i t, f = Value.int i t
  | [], _ => ⟨[], PySem.W.KatTups.nil, rfl, fun f hf => by simp at hf⟩
  | v :: vs, x => by
    obtain ⟨fs, k, hl, hi⟩ := firsts_K vs fun u hu => x u (List.mem_cons_of_mem _ hu)
    obtain ⟨i, y, a, t, rfl, o, ho, hc, n, hd⟩ := x v (List.mem_cons_self ..)
    refine ⟨.int i t :: fs, PySem.W.KatTups.cons ho hc hd rfl k, congrArg (· + 1) hl, fun f hf => ?_⟩
    rcases List.mem_cons.mp hf with rfl | hf
    · exact ⟨i, t, rfl⟩
    · exact hi f hf
/-- any two of them compare by their first items; the very same one with itself -/
theorem cmp_K {vs : List Value} (hp : ∀ v ∈ vs, ∃ k y, PairK s.heap v k y) (hu : ∀ v ∈ vs, ∀ u ∈ vs, fst1 s.heap v = fst1 s.heap u → v = u) :
    SrtO.Cmp prog w A s (tuples' true) (fun p => p.1 ∈ vs) (SrtO.lt2 fun v u => decide (fst1 s.heap v < fst1 s.heap u)) := by
  intro p q hm hm'
  obtain ⟨k1, y1, h1⟩ := hp _ hm
  obtain ⟨k2, y2, h2⟩ := hp _ hm'
  have f1 := h1.fst
  have f2 := h2.fst
  have hu' := hu _ hm _ hm'
  show wpAny (model prog w) A (keyLt' (tuples' true) p.1 q.1) (fun r s' => s' = s ∧ r = decide (fst1 s.heap p.1 < fst1 s.heap q.1)) (fun _ _ => False) s
  obtain ⟨a, t, e, o, ho, hc, n, hd⟩ := h1
  obtain ⟨a', t', e', o', ho', hc', n', hd'⟩ := h2
  rw [f1, f2] at hu' ⊢
  rw [e, e']
  refine PySem.W.kat_lt ho hd ho' hd' ?_
  show PySem.W.KatLex prog w A true false _ [(.int k1 t, .int k2 t'), (y1, y2)] 0 s
  refine PySem.W.kat_cons (SeqAt.EqAt.int_int k1 t k2 t' prog w _ _ ?_)
  refine PySem.W.kat_go (fun e1 => ?_) (fun e1 => ?_)
  · have ek : k1 = k2 := by simpa using e1
    have ea : a = a' := by
      have z := hu' ek
      rw [e, e'] at z
      exact Value.ref.inj z
    subst ea
    have eo : o = o' := Option.some.inj (ho.symm.trans ho')
    subst eo
    have ed := hd.symm.trans hd'
    injection ed with ed _
    have ey : y1 = y2 := by
      have z := congrArg Array.toList ed
      simp at z
      exact z.2
    subst ey
    refine PySem.W.kat_yes (PySem.W.kat_cons (eqBool_self ?_))
    refine PySem.W.kat_yes (PySem.W.kat_nil ⟨rfl, ?_⟩)
    exact (decide_eq_false (by omega)).symm
  · exact PySem.W.kat_no (PyProof.Rows.oneLt_int ⟨rfl, rfl⟩)
theorem sortable_K {a : Addr} {vs : List Value} (h0 : 0 < vs.length) (hp : ∀ v ∈ vs, ∃ k y, PairK s.heap v k y) (hu : ∀ v ∈ vs, ∀ u ∈ vs, fst1 s.heap v = fst1 s.heap u → v = u) (ha : ∀ o, s.heap.get? a = some o → o.cls ≠ .type "tuple") :
    SrtO.SortableO prog w A s a vs fun v u => decide (fst1 s.heap v < fst1 s.heap u) := by
  intro h' keep
  have kp : ∀ b o, s.heap.get? b = some o → o.cls = .type "tuple" → h'.get? b = some o := fun b o e c => keep b o (fun z => by subst z; exact ha o e c) e
  have hp' : ∀ v ∈ vs, ∃ k y, PairK h' v k y := fun v hm => let ⟨k, y, x⟩ := hp v hm; ⟨k, y, x.keeps kp⟩
  have same : ∀ v ∈ vs, fst1 h' v = fst1 s.heap v := fun v hm => by
    obtain ⟨k, y, x⟩ := hp v hm
    rw [x.fst, (x.keeps kp).fst]
  obtain ⟨fs, h1, h2, h3⟩ := firsts_K vs hp'
  refine ⟨tuples' true, fun Q E hq => ?_, fun p q hm hm' => ?_⟩
  · refine PySem.W.kat_kind (T := .type "int") h1 (by omega) (fun f hm => ?_) (by rfl) ?_
    · obtain ⟨x, t, rfl⟩ := h3 f hm
      exact PySem.W.Looks.now
    · have e : (Value.type "int" != Value.type "tuple") = true := by first | decide +kernel | rfl | decide
      rw [e]
      exact hq
  · have c := cmp_K (prog := prog) (w := w) (A := A) (s := { s with heap := h' }) hp' (fun v hv u hw e => hu v hv u hw (by rw [← same v hv, ← same u hw]; exact e)) p q hm hm'
    have e : (SrtO.lt2 fun v u => decide (fst1 s.heap v < fst1 s.heap u)) p q = (SrtO.lt2 fun v u => decide (fst1 h' v < fst1 h' u)) p q := by
      show decide (fst1 s.heap p.1 < fst1 s.heap q.1) = decide (fst1 h' p.1 < fst1 h' q.1)
      rw [same _ hm, same _ hm']
    rw [e]
    exact c
end
end St

namespace St
open PySem PySem.Spec PyProof.Rows L2
def rSortItK : List V → Hp → VK → Prop := fun vs H Q => ∃ (p a : Addr) (ks : List (Int × V)), vs = [.ref p] ∧ H p = some (DX.itemsO p a) ∧ H a = some (.dK (ks.map fun e => (Sum.inl e.1, e.2))) ∧ (ks.map (·.1)).Nodup ∧
  ∀ (H' : Hp) (l : Addr) (ps : List (Addr × Int × V)), Same H H' → H l = none → (ps.map (·.2)).Perm ks → (ps.map (·.2.1)).Pairwise (· < ·) → H' l = some (.lst (ps.map fun z => V.ref z.1)) → (∀ z ∈ ps, H' z.1 = some (.tup [.int z.2.1, z.2.2])) → Q (.ref l) H'
theorem map_zip1 {α β γ : Type} (f : α → γ) : ∀ (as : List α) (ks : List β), as.length = ks.length → (as.zip ks).map (fun z => f z.1) = as.map f
  | [], _, _ => rfl
  | a :: as, [], h => by simp at h
  | a :: as, k :: ks, h => by
    rw [List.zip_cons_cons, List.map_cons, List.map_cons, map_zip1 f as ks (by simpa using h)]
section
variable {X : Cx}
theorem cr_sortedItemsK (hc : X.calm = true) : CallR X (.builtin "sorted") rSortItK := by
  intro pins s σ H xs us Q I r h
  obtain ⟨p, a, ks, rfl, hp, ha, hnd, q⟩ := h
  obtain rfl := Vals.ref1 r
  have view : s.heap.IsItemsView p a := (show ObjOk X.prog X.w H s.heap p (DX.itemsO p a) from I.hok p _ hp).1
  obtain ⟨z, hd, vs, rel, o, es, ep, ho, hx, hdat, _, prs, _⟩ := dk_of I.hok ha
  have l1 : ks.length = vs.length := by
    have z := Paired.length rel
    rwa [List.length_map] at z
  have l2 : es.size = vs.length := by
    have z := prs.length
    rwa [Array.length_toList] at z
  rw [List.length_map] at z
  refine DT.sortedI (es := es) (ep := ep) (I.ok.hd hc) view ⟨o, ho, hx, hdat⟩ (by omega) fun h' tk as hk hlt hl hG => ?_
  have lak : as.length = ks.length := by omega
  have nd : as.Nodup := List.Pairwise.imp (fun h => Nat.ne_of_lt h) hG.rise
  have made : ∀ (j : Nat) (b : Addr), as[j]? = some b → ∃ (e : Int × V) (y : Value) (t : Tok), ks[j]? = some e ∧ RelV e.2 y ∧ h'.get? b = some { cls := .type "tuple", data := .seq #[Value.int e.1 t, y] } := by
    intro j b hj
    obtain ⟨en, he, hg⟩ := hG.pairs j b hj
    obtain ⟨kv, e1, e2, e3⟩ := pairs_get prs (by rw [Array.getElem?_toList]; exact he)
    obtain ⟨pv, f1, f2, f3⟩ := kv_get rel e1
    rw [List.getElem?_map] at f1
    cases g : ks[j]? with
    | none => rw [g] at f1; cases f1
    | some e =>
      rw [g] at f1
      cases Option.some.inj f1
      have f2' : kv.1 = Sum.inl e.1 := f2.symm
      rw [f2'] at e2
      rcases keyIs_shape e2 with ⟨i, t, h1, h2⟩ | ⟨x, t, h1, _⟩
      · cases h1
        refine ⟨e, kv.2, t, rfl, f3, ?_⟩
        rw [hg, h2, e3]
      · cases h1
  -- the heap of the sort
  have hob : (h'.push { cls := .type "list", data := .seq (as.map Value.ref).toArray }).get? h'.objs.size = some (seqObj "list" (as.map Value.ref).toArray 0) := Heap.get?_push_size _ rfl
  have ne0 : ∀ b o, h'.get? b = some o → b ≠ h'.objs.size := fun b o e => Nat.ne_of_lt (Heap.lt_size e)
  have ka : ∀ b o, h'.get? b = some o → (h'.push { cls := .type "list", data := .seq (as.map Value.ref).toArray }).get? b = some o := fun b o e => Heap.get?_push_of_some _ e
  generalize (h'.push { cls := .type "list", data := .seq (as.map Value.ref).toArray }) = h2 at hob ka ⊢
  have pk : ∀ (j : Nat) (b : Addr), as[j]? = some b → ∃ (e : Int × V) (y : Value), ks[j]? = some e ∧ RelV e.2 y ∧ PairK h2 (.ref b) e.1 y := by
    intro j b hj
    obtain ⟨e, y, t, h1, h3, h4⟩ := made j b hj
    exact ⟨e, y, h1, h3, b, t, rfl, _, ka _ _ h4, rfl, _, rfl⟩
  have at_ : ∀ v ∈ as.map Value.ref, ∃ (j : Nat) (b : Addr) (e : Int × V) (y : Value), v = .ref b ∧ as[j]? = some b ∧ ks[j]? = some e ∧ PairK h2 v e.1 y := by
    intro v hv
    obtain ⟨b, hb, rfl⟩ := List.mem_map.mp hv
    obtain ⟨j, hj⟩ := List.mem_iff_getElem?.mp hb
    obtain ⟨e, y, h1, _, h3⟩ := pk j b hj
    exact ⟨j, b, e, y, rfl, hj, h1, h3⟩
  have uq : ∀ v ∈ as.map Value.ref, ∀ u ∈ as.map Value.ref, fst1 h2 v = fst1 h2 u → v = u := by
    intro v hv u hu e
    obtain ⟨j, b, c, y, rfl, h1, h3, h4⟩ := at_ v hv
    obtain ⟨j', b', c', y', rfl, h1', h3', h4'⟩ := at_ u hu
    rw [h4.fst, h4'.fst] at e
    have k1 : (ks.map (·.1))[j]? = some c.1 := by rw [List.getElem?_map, h3]; rfl
    have k2 : (ks.map (·.1))[j']? = some c.1 := by rw [List.getElem?_map, h3', e]; rfl
    have ej : j = j' := (List.getElem?_inj (List.getElem?_eq_some_iff.mp k1).1 hnd).mp (k1.trans k2.symm)
    subst ej
    cases Option.some.inj (h1.symm.trans h1')
    rfl
  have hsz : (as.map Value.ref).length ≤ sizeLine := by rw [List.length_map, lak]; exact z
  refine wpAny_call_entry PyProof.Rows.slot_list_sort ⟨_, hob, rfl⟩ PyProof.Rows.entry_list_sort
    (SrtO.list_sort_ord (s := { s with heap := h2, toks := tk }) (swo_fst (fst1 h2)) hob hsz (fun h2' => ?_) fun out o1 o2 => ⟨.none, rfl, ?_⟩) (PyProof.Rows.args_list_sort _)
  · refine sortable_K (s := { s with heap := h2, toks := tk }) (by omega) (fun v hv => ?_) uq (fun o e c => ?_)
    · obtain ⟨j, b, c, y, _, _, _, h4⟩ := at_ v hv
      exact ⟨c.1, y, h4⟩
    · cases Option.some.inj (e.symm.trans hob)
      exact absurd (Value.type.inj c) (by decide)
  · show EP X pins σ Q (.ref h'.objs.size) { s with heap := sortedHeap h2 h'.objs.size (as.map Value.ref) out.toArray, toks := tk }
    obtain ⟨zs, pz, ez⟩ := perm_lift (fun z : Addr × Int × V => Value.ref z.1) o2.perm (as.zip ks) (map_zip1 Value.ref as ks lak)
    have idx : ∀ z ∈ zs, ∃ j : Nat, as[j]? = some z.1 ∧ ks[j]? = some z.2 := by
      intro z' hz'
      obtain ⟨j, hj⟩ := List.mem_iff_getElem?.mp (pz.mem_iff.mp hz')
      exact ⟨j, List.getElem?_zip_eq_some.mp hj⟩
    have hperm : (zs.map (·.2)).Perm ks := by
      have e := pz.map (·.2)
      have m2 : (as.zip ks).map (·.2) = ks := List.map_snd_zip (by rw [lak]; exact Nat.le_refl _)
      rwa [m2] at e
    have key : ∀ z ∈ zs, fst1 h2 (Value.ref z.1) = z.2.1 := by
      intro z' hz'
      obtain ⟨j, j1, j2⟩ := idx z' hz'
      obtain ⟨e, y, h1, _, h3⟩ := pk j z'.1 j1
      have ee : e = z'.2 := Option.some.inj (h1.symm.trans j2)
      rw [h3.fst, ee]
    have hnd2 : (zs.map (·.2.1)).Nodup := by
      have e := (hperm.map (·.1)).nodup_iff.mpr hnd
      rwa [List.map_map] at e
    have hsort : (zs.map (·.2.1)).Pairwise (· < ·) := by
      have o3 : (zs.map fun z => Value.ref z.1).Pairwise (fun x y => decide (fst1 h2 y < fst1 h2 x) = false) := by rw [ez]; exact o1
      rw [List.pairwise_map] at o3
      rw [List.pairwise_map]
      have hnd3 := List.pairwise_map.mp hnd2
      refine List.Pairwise.imp_of_mem (fun {x y} hx hy h => ?_) (o3.and hnd3)
      have a1 := of_decide_eq_false h.1
      rw [key x hx, key y hy] at a1
      have a2 := h.2
      omega
    -- behind the sort
    have kF : ∀ b o, b ≠ h'.objs.size → h2.get? b = some o → (sortedHeap h2 h'.objs.size (as.map Value.ref) out.toArray).get? b = some o := fun b o hb e => (PyProof.Rows.sortedHeap_old hb (Heap.lt_size e)).trans e
    have kS : ∀ b o, s.heap.get? b = some o → (sortedHeap h2 h'.objs.size (as.map Value.ref) out.toArray).get? b = some o := fun b o e => kF b o (ne0 _ _ (hk b o e)) (ka _ _ (hk b o e))
    obtain ⟨eF, heF⟩ := PyProof.Rows.sortedHeap_at (vs := as.map Value.ref) (out := out.toArray) hob
    have I1 : Inv X pins σ H { s with heap := sortedHeap h2 h'.objs.size (as.map Value.ref) out.toArray, toks := tk } := I.kept (t' := tk) kS
    have hn0 : H h'.objs.size = none := I.hok.fresh (Nat.le_of_lt hlt)
    have hlen : (zs.map fun z => V.ref z.1).length ≤ sizeLine := by
      have e := hperm.length_eq
      rw [List.length_map] at e
      rw [List.length_map, e]
      exact z
    have rv : Vals (zs.map fun z => V.ref z.1) out := by
      rw [← ez]
      exact vals_maps (fun z : Addr × Int × V => V.ref z.1) (fun z => Value.ref z.1) zs fun _ _ => rfl
    have I2 : Inv X pins σ (upd H h'.objs.size (.lst (zs.map fun z => V.ref z.1))) { s with heap := sortedHeap h2 h'.objs.size (as.map Value.ref) out.toArray, toks := tk } :=
      I1.take (h' := sortedHeap h2 h'.objs.size (as.map Value.ref) out.toArray) (t' := tk) (fun b ob _ e => e) (I.fpOk (Nat.le_of_lt hlt) hn0) ⟨hlen, out, eF, rv, heF⟩
    obtain ⟨H2, I3, g, qt⟩ := DX.takeT (P := fun b ys => ∃ (j : Nat) (e : Int × V), as[j]? = some b ∧ ks[j]? = some e ∧ ys = [.int e.1, e.2]) I as _ I2 nd fun b hb => by
      obtain ⟨j, hj⟩ := List.mem_iff_getElem?.mp hb
      obtain ⟨e, y, t, he, hy, hg⟩ := made j b hj
      have hbl : s.heap.objs.size ≤ b := Nat.le_of_lt (hG.above b hb)
      refine ⟨hbl, ?_, [.int e.1, e.2], ⟨j, e, hj, he, rfl⟩, fun H3 => ⟨(by show 2 ≤ sizeLine; decide), [Value.int e.1 t, y], .cons ⟨t, rfl⟩ (.cons hy .nil), ⟨_, kF _ _ (ne0 _ _ hg) (ka _ _ hg), rfl, 0, rfl⟩⟩⟩
      rw [upd_ne (ne0 _ _ hg)]
      exact I.hok.fresh hbl
    refine ⟨.ref h'.objs.size, H2, I3, rfl, q H2 h'.objs.size zs (fun b o e => g b o (by rw [upd_ne (ne_of_none e hn0)]; exact e)) hn0 hperm hsort (g _ _ upd_same) fun z' hz' => ?_⟩
    obtain ⟨i, i1, i2⟩ := idx z' hz'
    obtain ⟨ys, ⟨j, e, j1, j2, ev⟩, hH⟩ := qt z'.1 (List.mem_of_getElem? i1)
    have eij : i = j := (List.getElem?_inj (List.getElem?_eq_some_iff.mp i1).1 nd).mp (i1.trans j1.symm)
    subst eij
    have ee : e = z'.2 := Option.some.inj (j2.symm.trans i2)
    rw [ev, ee] at hH
    exact hH
end
end St

namespace St
open PySem PySem.Spec PyProof.Rows L2
/-! ### what a guesser knows -/
inductive Sg where
  | str (l : Option Int) (st t : Int)
  | prs (l : Option Int) (kn : List (Int × List Int))
  | both (a b : Sg)
def optV : Option Int → V
  | none => .non
  | some i => .int i
/-- what came behind what: its lists lie in tuples -/
def Ku (K : PySem.W.Frag) (H : Hp) (kn : List (Int × List Int)) (ku : List (Int × Addr)) : Prop := Paired (fun (e : Int × List Int) (f : Int × Addr) => e.1 = f.1 ∧ SqT K H f.2 (e.2.map V.int)) kn ku
/-- .. as it lies in a tuple q of pairs -/
def IsKn (K : PySem.W.Frag) (H : Hp) (kn : List (Int × List Int)) (q : Addr) : Prop :=
  ∃ (o : Obj) (ps : List Addr) (ku : List (Int × Addr)), H q = some (.frz o (.tup (ps.map V.ref))) ∧ o.dict = none ∧ Paired (fun (p : Addr) (e : Int × Addr) => SqT K H p [.int e.1, .ref e.2]) ps ku ∧ Ku K H kn ku
theorem Ku.imm {K : PySem.W.Frag} {H H' : Hp} {kn : List (Int × List Int)} {ku : List (Int × Addr)} (h : Ku K H kn ku) (e : Imm H H') : Ku K H' kn ku := Paired.mapP h fun _ _ z => ⟨z.1, e.t z.2⟩
def IsS (K : PySem.W.Frag) (H : Hp) : Sg → V → Prop
  | .str l st t, v => ∃ p, v = .ref p ∧ SqT K H p [optV l, .int st, .int t]
  | .prs l kn, v => ∃ p q, v = .ref p ∧ SqT K H p [optV l, .ref q] ∧ IsKn K H kn q
  | .both a b, v => ∃ p x y, v = .ref p ∧ SqT K H p [x, y] ∧ IsS K H a x ∧ IsS K H b y
theorem IsKn.imm {K : PySem.W.Frag} {H H' : Hp} {kn : List (Int × List Int)} {q : Addr} (h : IsKn K H kn q) (e : Imm H H') : IsKn K H' kn q := by
  obtain ⟨o, ps, ku, h1, h2, h3, h4⟩ := h
  exact ⟨o, ps, ku, e.frz _ _ _ (.inl ⟨_, rfl⟩) h1, h2, Paired.mapP h3 fun _ _ z => e.t z, h4.imm e⟩
theorem IsS.imm {K : PySem.W.Frag} {H H' : Hp} : ∀ {s : Sg} {v : V}, IsS K H s v → Imm H H' → IsS K H' s v
  | .str _ _ _, _, ⟨p, e, h⟩, i => ⟨p, e, i.t h⟩
  | .prs _ _, _, ⟨p, q, e, h, k⟩, i => ⟨p, q, e, i.t h, k.imm i⟩
  | .both _ _, _, ⟨p, x, y, e, h, a, b⟩, i => ⟨p, x, y, e, i.t h, a.imm i, b.imm i⟩
theorem IsS.same {K : PySem.W.Frag} {H H' : Hp} {s : Sg} {v : V} (h : IsS K H s v) (e : Same H H') : IsS K H' s v := h.imm (Imm.same e)
/-- put in its place -/
def insK {α : Type} (k : Int) (v : α) : List (Int × α) → List (Int × α)
  | [] => [(k, v)]
  | (k', v') :: r => if k < k' then (k, v) :: (k', v') :: r else if k = k' then (k, v) :: r else (k', v') :: insK k v r
def lookK (kn : List (Int × List Int)) (k : Int) : List Int := (kn.lookup k).getD []
def knStep (many : Int) (l : Option Int) (kn : List (Int × List Int)) (p : Int) : List (Int × List Int) :=
  match l with
  | none => kn
  | some x => insK x (p :: ((lookK kn x).filter fun e => decide (e ≠ p)).take (many - 1).toNat) kn
def strStep (trust : Int) (l : Option Int) (st t p : Int) : Sg × List Int :=
  match l with
  | none => (.str (some p) 0 0, [])
  | some x => (.str (some p) (p - x) (if p - x = st then t + 1 else 1), if p - x ≠ 0 ∧ trust ≤ (if p - x = st then t + 1 else 1) then [p + (p - x)] else [])
def hd0 : List Int → Int
  | [] => 0
  | n :: _ => n
/-- what a guesser knows and guesses behind a place more -/
def stepG : G → Sg → Int → Sg × List Int
  | .both a b, .both s t, p => (.both (stepG a s p).1 (stepG b t p).1, (stepG a s p).2 ++ (stepG b t p).2.filter fun e => decide (e ∉ (stepG a s p).2))
  | .leaf w ns, s, p => if w = "none" then (s, []) else if w = "next" then (s, (List.range (hd0 ns).toNat).map fun (k : Nat) => p + (k : Int) + 1)
      else (match s with
        | .str l st t => strStep (hd0 ns) l st t p
        | .prs l kn => (.prs (some p) (knStep (hd0 ns) l kn p), lookK (knStep (hd0 ns) l kn p) p)
        | s => (s, []))
  | _, s, _ => (s, [])
/-- the state fits the guesser -/
def Fit : G → Sg → Prop
  | .both a b, .both s t => Fit a s ∧ Fit b t
  | .leaf w _, .str _ _ _ => w = "stride"
  | .leaf w _, .prs _ _ => w ≠ "stride"
  | _, _ => False
def first0 : G → Sg
  | .both a b => .both (first0 a) (first0 b)
  | .leaf w _ => if w = "stride" then .str none 0 0 else .prs none []
  | _ => .prs none []
/-- keys rise; few of them; few behind each -/
def okS (N : Nat) : Sg → Prop
  | .str _ _ _ => True
  | .prs _ kn => kn.length ≤ N ∧ (kn.map (·.1)).Pairwise (· < ·) ∧ ∀ e ∈ kn, e.2.length ≤ 3
  | .both a b => okS N a ∧ okS N b
theorem insK_len {α : Type} (k : Int) (v : α) : ∀ kn : List (Int × α), (insK k v kn).length ≤ kn.length + 1
  | [] => Nat.le_refl _
  | (k', v') :: r => by
    unfold insK
    split
    · exact Nat.le_refl _
    · split
      · exact Nat.le_succ _
      · exact Nat.succ_le_succ (insK_len k v r)
theorem insK_mem {α : Type} {k : Int} {v : α} : ∀ {kn : List (Int × α)} {e : Int × α}, e ∈ insK k v kn → e = (k, v) ∨ e ∈ kn
  | [], e, h => .inl (List.mem_singleton.mp h)
  | (k', v') :: r, e, h => by
    unfold insK at h
    split at h
    · rcases List.mem_cons.mp h with h | h
      · exact .inl h
      · exact .inr h
    · split at h
      · rcases List.mem_cons.mp h with h | h
        · exact .inl h
        · exact .inr (List.mem_cons_of_mem _ h)
      · rcases List.mem_cons.mp h with h | h
        · exact .inr (h ▸ List.mem_cons_self ..)
        · rcases insK_mem h with h | h
          · exact .inl h
          · exact .inr (List.mem_cons_of_mem _ h)
theorem insK_rise {α : Type} {k : Int} {v : α} : ∀ {kn : List (Int × α)}, (kn.map (·.1)).Pairwise (· < ·) → ((insK k v kn).map (·.1)).Pairwise (· < ·)
  | [], _ => List.pairwise_singleton _ _
  | (k', v') :: r, h => by
    rw [List.map_cons, List.pairwise_cons] at h
    unfold insK
    split
    · rename_i c
      rw [List.map_cons, List.pairwise_cons, List.map_cons, List.pairwise_cons]
      refine ⟨fun x hx => ?_, h⟩
      rcases List.mem_cons.mp hx with rfl | hx
      · exact c
      · exact Int.lt_trans c (h.1 x hx)
    · split
      · rename_i c
        subst c
        rw [List.map_cons, List.pairwise_cons]
        exact h
      · rename_i c1 c2
        rw [List.map_cons, List.pairwise_cons]
        refine ⟨fun x hx => ?_, insK_rise h.2⟩
        obtain ⟨e, he, rfl⟩ := List.mem_map.mp hx
        rcases insK_mem he with rfl | he
        · show k' < k
          omega
        · exact h.1 _ (List.mem_map.mpr ⟨e, he, rfl⟩)
theorem lookK_len {N : Nat} {kn : List (Int × List Int)} (h : ∀ e ∈ kn, e.2.length ≤ N) (k : Int) : (lookK kn k).length ≤ N := by
  unfold lookK
  cases e : kn.lookup k with
  | none => exact Nat.zero_le _
  | some v =>
    show v.length ≤ N
    have : ∀ {kn : List (Int × List Int)}, kn.lookup k = some v → (k, v) ∈ kn := by
      intro kn
      induction kn with
      | nil => intro h; cases h
      | cons a r ih =>
        intro h
        obtain ⟨x, y⟩ := a
        rw [List.lookup_cons] at h
        split at h
        · rename_i c
          have := eq_of_beq c
          subst this
          cases Option.some.inj h
          exact List.mem_cons_self ..
        · exact List.mem_cons_of_mem _ (ih h)
    exact h _ (this e)
theorem knStep_ok {N : Nat} {many : Int} (hm : many ≤ 3) {l : Option Int} {kn : List (Int × List Int)} {p : Int} (h : okS N (.prs l kn)) : okS (N + 1) (.prs (some p) (knStep many l kn p)) := by
  obtain ⟨h1, h2, h3⟩ := h
  unfold knStep
  cases l with
  | none => exact ⟨Nat.le_succ_of_le h1, h2, h3⟩
  | some x =>
    refine ⟨Nat.le_trans (insK_len _ _ _) (Nat.succ_le_succ h1), insK_rise h2, fun e he => ?_⟩
    rcases insK_mem he with rfl | he
    · show (p :: _).length ≤ 3
      rw [List.length_cons, List.length_take]
      omega
    · exact h3 e he
/-- by the keys alone -/
theorem rise_uniq {α : Type} {l m : List (Int × α)} (p : l.Perm m) (hl : (l.map (·.1)).Pairwise (· < ·)) (hm : (m.map (·.1)).Pairwise (· < ·)) : l = m := by
  rw [List.pairwise_map] at hl hm
  exact List.Perm.eq_of_pairwise (fun a b _ _ h1 h2 => absurd h1 (Int.not_lt.mpr (Int.le_of_lt h2))) hl hm p
theorem insK_perm {α : Type} {k : Int} {v : α} : ∀ {kn : List (Int × α)}, (∀ e ∈ kn, e.1 ≠ k) → (insK k v kn).Perm (kn ++ [(k, v)])
  | [], _ => List.Perm.refl _
  | (k', v') :: r, h => by
    unfold insK
    split
    · exact (List.perm_append_comm (l₁ := [(k, v)]) (l₂ := (k', v') :: r))
    · split
      · rename_i c
        exact absurd c.symm (h _ (List.mem_cons_self ..))
      · exact (insK_perm fun e he => h e (List.mem_cons_of_mem _ he)).cons _
theorem insK_old {α : Type} {k : Int} {v : α} : ∀ {kn : List (Int × α)}, (kn.map (·.1)).Pairwise (· < ·) → (∃ e ∈ kn, e.1 = k) → insK k v kn = kn.map fun e => if e.1 = k then (e.1, v) else e
  | [], _, ⟨e, h, _⟩ => nomatch h
  | (k', v') :: r, h, ⟨e, he, ek⟩ => by
    rw [List.map_cons, List.pairwise_cons] at h
    unfold insK
    by_cases c : k = k'
    · subst c
      rw [if_neg (Int.lt_irrefl _), if_pos rfl, List.map_cons, if_pos rfl]
      have : r.map (fun e => if e.1 = k then (e.1, v) else e) = r := by
        refine (List.map_congr_left fun e he => ?_).trans (List.map_id r)
        have := h.1 e.1 (List.mem_map.mpr ⟨e, he, rfl⟩)
        rw [if_neg (by show ¬ e.1 = k; omega)]
        rfl
      rw [this]
    · have he' : e ∈ r := by
        rcases List.mem_cons.mp he with rfl | he
        · exact absurd ek.symm c
        · exact he
      have lt : k' < k := by
        have := h.1 e.1 (List.mem_map.mpr ⟨e, he', rfl⟩)
        omega
      rw [if_neg (by omega), if_neg c, List.map_cons, if_neg (fun z => c z.symm), insK_old h.2 ⟨e, he', ek⟩]
/-- a dict's store, in order again -/
theorem put_ins {α : Type} {k : Int} {v : α} {kn : List (Int × α)} (h : (kn.map (·.1)).Pairwise (· < ·)) {m : List (Int × α)}
    (e : m = if (kn.any fun e => decide (e.1 = k)) = true then kn.map (fun e => if e.1 = k then (e.1, v) else e) else kn ++ [(k, v)]) {l : List (Int × α)} (p : l.Perm m) (hl : (l.map (·.1)).Pairwise (· < ·)) : l = insK k v kn := by
  subst e
  by_cases c : (kn.any fun e => decide (e.1 = k)) = true
  · rw [if_pos c] at p
    obtain ⟨x, hx, ex⟩ := List.any_eq_true.mp c
    have z := insK_old (v := v) h ⟨x, hx, of_decide_eq_true ex⟩
    rw [← z] at p
    exact rise_uniq p hl (insK_rise h)
  · rw [if_neg c] at p
    have n : ∀ e ∈ kn, e.1 ≠ k := fun e he z => c (List.any_eq_true.mpr ⟨e, he, decide_eq_true z⟩)
    exact rise_uniq (p.trans (insK_perm n).symm) hl (insK_rise h)
theorem insK_map {α β : Type} (f : α → β) (k : Int) (v : α) : ∀ kn : List (Int × α), (insK k v kn).map (fun e => (e.1, f e.2)) = insK k (f v) (kn.map fun e => (e.1, f e.2))
  | [] => rfl
  | (k', v') :: r => by
    show (insK k v ((k', v') :: r)).map _ = insK k (f v) ((k', f v') :: r.map fun e => (e.1, f e.2))
    unfold insK
    by_cases c1 : k < k'
    · rw [if_pos c1, if_pos c1]; rfl
    · rw [if_neg c1, if_neg c1]
      by_cases c2 : k = k'
      · rw [if_pos c2, if_pos c2]; rfl
      · rw [if_neg c2, if_neg c2, List.map_cons, insK_map f k v r]
theorem Ku.keys {K : PySem.W.Frag} {H : Hp} : ∀ {kn : List (Int × List Int)} {ku : List (Int × Addr)}, Ku K H kn ku → ku.map (·.1) = kn.map (·.1)
  | _, _, .nil => rfl
  | _, _, .cons h r => by rw [List.map_cons, List.map_cons, h.1, Ku.keys r]
theorem Ku.len {K : PySem.W.Frag} {H : Hp} {kn : List (Int × List Int)} {ku : List (Int × Addr)} (h : Ku K H kn ku) : kn.length = ku.length := Paired.length h
theorem Ku.look {K : PySem.W.Frag} {H : Hp} (k : Int) : ∀ {kn : List (Int × List Int)} {ku : List (Int × Addr)}, Ku K H kn ku → (kn.lookup k = none ∧ ku.lookup k = none) ∨ ∃ v u, kn.lookup k = some v ∧ ku.lookup k = some u ∧ SqT K H u (v.map V.int)
  | _, _, .nil => .inl ⟨rfl, rfl⟩
  | (k1, v) :: kn, (k2, u) :: ku, .cons ⟨h, hs⟩ r => by
    simp only at h hs
    subst h
    by_cases c : k = k1
    · subst c
      exact .inr ⟨v, u, by simp [List.lookup], by simp [List.lookup], hs⟩
    · have c1 : (k == k1) = false := beq_eq_false_iff_ne.mpr c
      rcases Ku.look k r with ⟨a, b⟩ | ⟨v', u', a, b, d⟩
      · exact .inl ⟨by simp [List.lookup, c1, a], by simp [List.lookup, c1, b]⟩
      · exact .inr ⟨v', u', by simp [List.lookup, c1, a], by simp [List.lookup, c1, b], d⟩
theorem Ku.ins {K : PySem.W.Frag} {H : Hp} {k : Int} {v : List Int} {u : Addr} (hs : SqT K H u (v.map V.int)) : ∀ {kn : List (Int × List Int)} {ku : List (Int × Addr)}, Ku K H kn ku → Ku K H (insK k v kn) (insK k u ku)
  | _, _, .nil => .cons ⟨rfl, hs⟩ .nil
  | (k1, v1) :: kn, (k2, u1) :: ku, .cons ⟨h, h1⟩ r => by
    simp only at h h1
    subst h
    unfold insK
    by_cases c1 : k < k1
    · rw [if_pos c1, if_pos c1]
      exact .cons ⟨rfl, hs⟩ (.cons ⟨rfl, h1⟩ r)
    · rw [if_neg c1, if_neg c1]
      by_cases c2 : k = k1
      · rw [if_pos c2, if_pos c2]
        exact .cons ⟨rfl, hs⟩ r
      · rw [if_neg c2, if_neg c2]
        exact .cons ⟨rfl, h1⟩ (Ku.ins hs r)
/-- as a dict's pairs -/
def dk (ku : List (Int × Addr)) : List (Key × V) := ku.map fun e => (Sum.inl e.1, V.ref e.2)
def dput (ku : List (Int × Addr)) (k : Int) (u : Addr) : List (Int × Addr) := if (ku.any fun e => decide (e.1 = k)) = true then ku.map (fun e => if e.1 = k then (e.1, u) else e) else ku ++ [(k, u)]
theorem any_dk (k : Int) : ∀ ku : List (Int × Addr), ((dk ku).any fun kv => decide (kv.1 = Sum.inl k)) = ku.any fun e => decide (e.1 = k)
  | [] => rfl
  | (a, b) :: r => by
    show (decide ((Sum.inl a : Key) = Sum.inl k) || (dk r).any _) = (decide (a = k) || r.any _)
    rw [any_dk k r, key_ll, Bool.beq_eq_decide_eq]
theorem put_dk (ku : List (Int × Addr)) (k : Int) (u : Addr) : putK (dk ku) (Sum.inl k : Key) (V.ref u) = dk (dput ku k u) := by
  unfold putK dput
  rw [any_dk]
  split
  · unfold dk
    rw [List.map_map, List.map_map]
    refine List.map_congr_left fun e _ => ?_
    show (if (Sum.inl e.1 : Key) = Sum.inl k then (Sum.inl e.1, V.ref u) else (Sum.inl e.1, V.ref e.2)) = _
    by_cases c : e.1 = k
    · rw [if_pos (congrArg Sum.inl c)]
      show _ = (fun e : Int × Addr => ((Sum.inl e.1 : Key), V.ref e.2)) (if e.1 = k then (e.1, u) else e)
      rw [if_pos c]
    · rw [if_neg (fun z => c (Sum.inl.inj z))]
      show _ = (fun e : Int × Addr => ((Sum.inl e.1 : Key), V.ref e.2)) (if e.1 = k then (e.1, u) else e)
      rw [if_neg c]
  · unfold dk
    rw [List.map_append]
    rfl
theorem val_dk (k : Int) : ∀ ku : List (Int × Addr), valV (dk ku) (Sum.inl k : Key) = (ku.lookup k).map V.ref
  | [] => rfl
  | (a, b) :: r => by
    by_cases c : a = k
    · subst c
      show valV ((Sum.inl a, V.ref b) :: dk r) _ = _
      rw [valV_pos rfl]
      simp [List.lookup]
    · show valV ((Sum.inl a, V.ref b) :: dk r) _ = _
      rw [valV_neg (fun z => c (Sum.inl.inj z)), val_dk k r]
      have : (k == a) = false := beq_eq_false_iff_ne.mpr (Ne.symm c)
      simp [List.lookup, this]
theorem merge_new : ∀ (more kvs : List (Key × V)), ((kvs ++ more).map (·.1)).Nodup → mergeK kvs more = kvs ++ more
  | [], kvs, _ => by rw [List.append_nil]; rfl
  | p :: r, kvs, h => by
    have e : putK kvs p.1 p.2 = kvs ++ [p] := by
      unfold putK
      rw [if_neg]
      intro c
      obtain ⟨x, hx, ex⟩ := List.any_eq_true.mp c
      have ex := of_decide_eq_true ex
      rw [List.map_append, List.nodup_append] at h
      exact h.2.2 x.1 (List.mem_map.mpr ⟨x, hx, rfl⟩) p.1 (by rw [List.map_cons]; exact List.mem_cons_self ..) ex
    show mergeK (putK kvs p.1 p.2) r = _
    rw [e, merge_new r (kvs ++ [p]) (by rw [List.append_assoc]; exact h), List.append_assoc]
    rfl
theorem rise_nodup {l : List Int} (h : l.Pairwise (· < ·)) : l.Nodup := List.Pairwise.imp (fun h => Int.ne_of_lt h) h
theorem merge_dk {ku : List (Int × Addr)} (h : (ku.map (·.1)).Pairwise (· < ·)) : mergeK [] (dk ku) = dk ku := by
  refine merge_new _ _ ?_
  show ((dk ku).map (·.1)).Nodup
  have e : (dk ku).map (·.1) = (ku.map (·.1)).map (Sum.inl : Int → Key) := by
    unfold dk
    rw [List.map_map, List.map_map]
    rfl
  rw [e]
  exact List.pairwise_map.mpr ((rise_nodup h).imp fun h z => h (Sum.inl.inj z))
abbrev rv (e : Int × Addr) : Int × V := (e.1, V.ref e.2)
theorem pr_zs {K : PySem.W.Frag} {H : Hp} : ∀ {zs : List (Addr × Int × V)} {m : List (Int × Addr)}, zs.map (·.2) = m.map rv → (∀ z ∈ zs, SqT K H z.1 [.int z.2.1, z.2.2]) → Paired (fun (p : Addr) (e : Int × Addr) => SqT K H p [.int e.1, .ref e.2]) (zs.map (·.1)) m
  | [], [], _, _ => .nil
  | [], _ :: _, h, _ => by simp at h
  | _ :: _, [], h, _ => by simp at h
  | z :: zs, e :: m, h, hz => by
    rw [List.map_cons, List.map_cons] at h
    injection h with h1 h2
    have a := hz z (List.mem_cons_self ..)
    rw [h1] at a
    exact .cons a (pr_zs h2 fun z hz' => hz z (List.mem_cons_of_mem _ hz'))
theorem mem_lookup {α : Type} {k : Int} {v : α} : ∀ {l : List (Int × α)}, (l.map (·.1)).Nodup → ((k, v) ∈ l ↔ l.lookup k = some v)
  | [], _ => by simp
  | (a, b) :: r, h => by
    rw [List.map_cons, List.nodup_cons] at h
    rw [List.lookup_cons, List.mem_cons]
    by_cases c : k = a
    · subst c
      rw [beq_self_eq_true]
      constructor
      · rintro (e | e)
        · injection e with _ e; rw [e]
        · exact absurd (List.mem_map.mpr ⟨(k, v), e, rfl⟩) h.1
      · intro e
        rw [Option.some.inj e]
        exact .inl rfl
    · rw [beq_eq_false_iff_ne.mpr c]
      constructor
      · rintro (e | e)
        · injection e with e _; exact absurd e c
        · exact (mem_lookup h.2).mp e
      · intro e
        exact .inr ((mem_lookup h.2).mpr e)
theorem lookup_perm {α : Type} {k : Int} {l m : List (Int × α)} (p : l.Perm m) (h : (m.map (·.1)).Nodup) : l.lookup k = m.lookup k := by
  have hl : (l.map (·.1)).Nodup := ((p.map (·.1)).nodup_iff).mpr h
  cases e : m.lookup k with
  | some v => exact (mem_lookup hl).mp (p.mem_iff.mpr ((mem_lookup h).mpr e))
  | none =>
    cases e2 : l.lookup k with
    | none => rfl
    | some v =>
      rw [(mem_lookup h).mp (p.mem_iff.mp ((mem_lookup hl).mpr e2))] at e
      cases e
theorem dput_perm {ku : List (Int × Addr)} (h : (ku.map (·.1)).Pairwise (· < ·)) (k : Int) (u : Addr) : (insK k u ku).Perm (dput ku k u) := by
  unfold dput
  by_cases c : (ku.any fun e => decide (e.1 = k)) = true
  · rw [if_pos c]
    obtain ⟨x, hx, ex⟩ := List.any_eq_true.mp c
    rw [insK_old h ⟨x, hx, of_decide_eq_true ex⟩]
  · rw [if_neg c]
    exact insK_perm fun e he z => c (List.any_eq_true.mpr ⟨e, he, decide_eq_true z⟩)
theorem dput_nodup {ku : List (Int × Addr)} (h : (ku.map (·.1)).Pairwise (· < ·)) (k : Int) (u : Addr) : ((dput ku k u).map (·.1)).Nodup :=
  (((dput_perm h k u).map (·.1)).nodup_iff).mp (rise_nodup (insK_rise h))
end St

namespace St
open PySem PySem.Spec PyProof.Rows L2
abbrev s_is_guesser : Stmt := topS 9
abbrev N_is_guesser : List Str := ["guesser", "within"]
abbrev p_is_guesser : List Str := ["guesser", "within"]
theorem sc_is_guesser : FnScope N_is_guesser p_is_guesser (defScope s_is_guesser) := ⟨rfl, rfl, rfl, by decide +kernel, rfl, by decide +kernel, by decide +kernel⟩
abbrev s_need_guesser : Stmt := topS 10
abbrev N_need_guesser : List Str := ["guesser"]
abbrev p_need_guesser : List Str := ["guesser"]
theorem sc_need_guesser : FnScope N_need_guesser p_need_guesser (defScope s_need_guesser) := ⟨rfl, rfl, rfl, by decide +kernel, rfl, by decide +kernel, by decide +kernel⟩
section
variable {P : Program} {w : World} {K : PySem.W.Frag} {mg : Str → Option Value} {base : Heap} {f dS dM : Addr} {fd : FuncData}
theorem ok_is_guesser (T : Nms mg) (B : Tab K w mg dS dM) (D_is_guesser : Df K mg "is_guesser" s_is_guesser p_is_guesser f fd) : ∀ n : Nat, FnOk P w K mg base CX0 n f fd p_is_guesser (spIs K n)
  | 0 => fn_zero fun vs H Q E ⟨v, g, w, _, _, _, h, h2, _⟩ => by omega
  | n + 1 => by
    have G_is_guesser := ok_is_guesser T B D_is_guesser n
    refine D_is_guesser.F.ok sc_is_guesser (fun vs H Q E h => ?_) (fun cdv A outer s H vs Q E hr h => ?_)
    · obtain ⟨r, m, wi, rfl, _⟩ := h
      rfl
    obtain ⟨v, g, m, rfl, hG, hW, h4, h5, q⟩ := h
    refine ⟨_, (pss_cons (ps_if (PW.pt (pw_or (pt_cmpR op_eq (pe_callB call_len_seq (by rfl) T.n_len (by decide +kernel) (pa_cons (pv 0) pa_nil)) pe_int (nomark _)) (pw_or (pt_cmpR (op_notIn_id B.i_SORTS) (pe_ix ix_tup (pv 0) pe_int (fun _ _ => rfl)) (pe_gref (by rfl) B.g_SORTS) (by with_unfolding_all rfl)) (pw_or (pt_cmpR op_ne (pe_callB call_len_seq (by rfl) T.n_len (by decide +kernel) (pa_cons (pv 0) pa_nil)) (pe_ix (ix_id B.i_SORTS) (pe_gref (by rfl) B.g_SORTS) (pe_ix ix_tup (pv 0) pe_int (fun _ _ => rfl)) (fun _ _ => rfl)) (nomark _)) (pw_or1 (pt_cmpR op_gt (pv 1) (pe_gint (by rfl) B.g_MOST_WITHIN) (nomark _)))))))
    (pss_one (ps_ret pe_bl))
    (pss_nil))
  (pss_cons (ps_if (pt_cmpR op_eq (pe_ix ix_tup (pv 0) pe_int (fun _ _ => rfl)) pe_str (nomark _))
    (pss_one (ps_ret (pe_and (pe_call G_is_guesser (hr.mono (by first | decide | omega)) (by rfl) D_is_guesser.m D_is_guesser.F.kp D_is_guesser.b .nil pass0 (pa_cons (pe_ix ix_tup (pv 0) pe_int (fun _ _ => rfl)) (pa_cons (pe_op op_add (pv 1) pe_int) pa_nil))) (pe_one (pe_call G_is_guesser (hr.mono (by first | decide | omega)) (by rfl) D_is_guesser.m D_is_guesser.F.kp D_is_guesser.b .nil pass0 (pa_cons (pe_ix ix_tup (pv 0) pe_int (fun _ _ => rfl)) (pa_cons (pe_op op_add (pv 1) pe_int) pa_nil)))))))
    (pss_nil))
  (pss_one (ps_ret (pe_or (pe_cmpR op_eq (pe_ix ix_tup (pv 0) pe_int (fun _ _ => rfl)) pe_str (nomark _)) (pe_one (pe_chain op_le op_le pe_int (pe_ix ix_tup (pv 0) pe_int (fun _ _ => rfl)) (pe_ix (ix_id B.i_MOST_OF) (pe_gref (by rfl) B.g_MOST_OF) (pe_ix ix_tup (pv 0) pe_int (fun _ _ => rfl)) (fun _ _ => rfl))))))))), ?_⟩
    cases g with
    | nil =>
      obtain ⟨p, rfl, hp⟩ := hG
      and_intros
      refine iteB (b := decide _) (decide_eq_true rfl) ?_
      exact q _ (Same.refl _)
    | leaf z ns =>
      obtain ⟨p, rfl, hp⟩ := hG
      have ez : ((.str z :: ns.map V.int : List V).length : Int) = (ns.length : Int) + 1 := by rw [List.length_cons, List.length_map]; rfl
      and_intros
      cases e : sortsL.lookup z with
      | none =>
        refine iteB rfl ?_
        refine iteB rfl ?_
        have q' := q H (Same.refl _)
        unfold isG at q'
        rw [e] at q'
        exact q'
      | some k =>
        refine iteB0 rfl ?_
        and_intros
        refine ⟨z, k, rfl, rfl, e, ?_⟩
        and_intros
        have q' : ∀ H', Same H H' → Q (V.bl (decide (((ns.length : Nat) : Int) + 1 = k) && decide (m ≤ 3) && (decide (z = "none") || numOk z ns))) H' := fun H' s => by
          have q' := q H' s
          unfold isG at q'
          rw [e] at q'
          exact q'
        by_cases c1 : ((ns.length : Nat) : Int) + 1 = k
        · rw [decide_eq_true c1] at q'
          refine iteB0 (by rw [ez, decide_eq_true (congrArg V.int c1)]; rfl) ?_
          and_intros
          by_cases c2 : m ≤ 3
          · rw [decide_eq_true c2] at q'
            refine iteB0 (decide_eq_false (by omega)) ?_
            and_intros
            refine iteB0 (decide_eq_false fun x => hW (V.str.inj x)) ?_
            and_intros
            by_cases c3 : z = "none"
            · rw [decide_eq_true c3] at q'
              refine iteB (decide_eq_true (congrArg V.str c3)) ?_
              exact q' _ (Same.refl _)
            · rw [decide_eq_false c3] at q'
              refine iteB0 (decide_eq_false fun x => c3 (V.str.inj x)) ?_
              obtain ⟨k2, mo, em⟩ := sorts_most e c3 hW
              obtain ⟨x, rfl⟩ : ∃ x, ns = [x] := by
                cases ns with
                | nil => rw [List.length_nil] at c1; omega
                | cons x r =>
                  cases r with
                  | nil => exact ⟨x, rfl⟩
                  | cons y r => rw [List.length_cons, List.length_cons] at c1; omega
              have eo : numOk z [x] = (decide (1 ≤ x) && decide (x ≤ mo)) := by unfold numOk; rw [em]
              rw [eo] at q'
              and_intros
              by_cases c4 : 1 ≤ x
              · refine iteB (decide_eq_true c4) ?_
                rw [decide_eq_true c4] at q'
                and_intros
                refine ⟨_, _, rfl, rfl, em, ?_⟩
                and_intros
                exact q' _ (Same.refl _)
              · refine iteB0 (decide_eq_false c4) ?_
                rw [decide_eq_false c4] at q'
                exact q' _ (Same.refl _)
          · rw [decide_eq_false c2] at q'
            refine iteB (decide_eq_true (by omega)) ?_
            exact q' _ (Same.refl _)
        · rw [decide_eq_false c1] at q'
          refine iteB (by rw [ez, decide_eq_false (fun e => c1 (V.int.inj e))]; rfl) ?_
          refine iteB rfl ?_
          exact q' _ (Same.refl _)
    | b1 a =>
      obtain ⟨p, x, rfl, hp, ha⟩ := hG
      and_intros
      refine ⟨_, 3, rfl, rfl, rfl, ?_⟩
      and_intros
      exact q _ (Same.refl _)
    | b3 a b c =>
      obtain ⟨p, x, y, z, rfl, hp, ha⟩ := hG
      and_intros
      refine ⟨_, 3, rfl, rfl, rfl, ?_⟩
      and_intros
      exact q _ (Same.refl _)
    | both a b =>
      obtain ⟨p, x, y, rfl, hp, ha, hb⟩ := hG
      and_intros
      refine ⟨_, 3, rfl, rfl, rfl, ?_⟩
      and_intros
      have q' : ∀ H', Same H H' → Q (V.bl (decide (m ≤ 3) && (isG (m + 1) a && isG (m + 1) b))) H' := q
      by_cases c2 : m ≤ 3
      · rw [decide_eq_true c2] at q'
        refine iteB0 (decide_eq_false (by omega)) ?_
        and_intros
        have ek : ∀ z : V, ([z, V.int ((m : Int) + 1)] : List V) = [z, V.int ((m + 1 : Nat) : Int)] := fun z => congrArg (fun i : Int => [z, V.int i]) (by omega)
        refine ⟨x, a, m + 1, ek _, ha, hW.1, by omega, by omega, fun H1 s1 => ?_⟩
        refine ⟨_, rfl, ?_⟩
        cases ea : isG (m + 1) a with
        | false =>
          refine iteN Bool.false_ne_true ?_
          rw [ea] at q'
          exact q' _ s1
        | true =>
          refine iteY rfl ?_
          rw [ea] at q'
          have hp1 := same_t s1 hp
          and_intros
          refine ⟨y, b, m + 1, ek _, hb.same s1, hW.2, by omega, by omega, fun H2 s2 => ?_⟩
          exact q' _ (s1.trans s2)
      · rw [decide_eq_false c2] at q'
        refine iteB (decide_eq_true (by omega)) ?_
        exact q' _ (Same.refl _)
theorem isG_good : ∀ (k : Nat) (g : G), good k g = true → k ≤ 3 → isG (3 - k) g = true ∧ WfG g
  | _, .nil, h, _ => by simp [good] at h
  | _, .b1 _, h, _ => by simp [good] at h
  | _, .b3 _ _ _, h, _ => by simp [good] at h
  | 0, .both _ _, h, _ => by simp [good] at h
  | k + 1, .both a b, h, hk => by
    have h' : (good k a && good k b) = true := h
    rw [Bool.and_eq_true] at h'
    have ha := isG_good k a h'.1 (by omega)
    have hb := isG_good k b h'.2 (by omega)
    have e : 3 - (k + 1) + 1 = 3 - k := by omega
    refine ⟨?_, ha.2, hb.2⟩
    show (decide (3 - (k + 1) ≤ 3) && (isG (3 - (k + 1) + 1) a && isG (3 - (k + 1) + 1) b)) = true
    rw [e, ha.1, hb.1, decide_eq_true (by omega)]
    rfl
  | k, .leaf w ns, h, _ => by
    unfold good at h
    rw [Bool.or_eq_true] at h
    rcases h with h | h
    · obtain ⟨rfl, rfl⟩ := of_decide_eq_true h
      refine ⟨?_, by show ("none" : Str) ≠ "both"; decide⟩
      show ((decide ((((0 : Nat)) : Int) + 1 = 1) && decide (3 - k ≤ 3)) && (decide (("none" : Str) = "none") || numOk "none" [])) = true
      rw [decide_eq_true (by omega : 3 - k ≤ 3)]
      rfl
    · cases ns with
      | nil => simp at h
      | cons n r =>
        cases r with
        | cons _ _ => simp at h
        | nil =>
          have h' := of_decide_eq_true h
          rcases h' with ⟨rfl, h1, h2⟩ | ⟨rfl, h1, h2⟩ | ⟨rfl, h1, h2⟩
          · refine ⟨?_, by show ("next" : Str) ≠ "both"; decide⟩
            show ((decide ((((1 : Nat)) : Int) + 1 = 2) && decide (3 - k ≤ 3)) && (decide (("next" : Str) = "none") || (decide (1 ≤ n) && decide (n ≤ 3)))) = true
            rw [decide_eq_true (by omega : 3 - k ≤ 3), decide_eq_true h1, decide_eq_true h2]
            simp
          · refine ⟨?_, by show ("stride" : Str) ≠ "both"; decide⟩
            show ((decide ((((1 : Nat)) : Int) + 1 = 2) && decide (3 - k ≤ 3)) && (decide (("stride" : Str) = "none") || (decide (1 ≤ n) && decide (n ≤ 3)))) = true
            rw [decide_eq_true (by omega : 3 - k ≤ 3), decide_eq_true h1, decide_eq_true h2]
            simp
          · refine ⟨?_, by show ("pairs" : Str) ≠ "both"; decide⟩
            show ((decide ((((1 : Nat)) : Int) + 1 = 2) && decide (3 - k ≤ 3)) && (decide (("pairs" : Str) = "none") || (decide (1 ≤ n) && decide (n ≤ 2)))) = true
            rw [decide_eq_true (by omega : 3 - k ≤ 3), decide_eq_true h1, decide_eq_true h2]
            simp
/-- of a good guesser nothing is refused -/
def spNeedG (K : PySem.W.Frag) : Sp := fun vs H Q _ => ∃ (v : V) (g : G), vs = [v] ∧ IsG K H g v ∧ good 3 g = true ∧ ∀ H', Same H H' → Q .non H'
theorem ok_need_guesser {f2 : Addr} {fd2 : FuncData} (T : Nms mg) (B : Tab K w mg dS dM) (D_is_guesser : Df K mg "is_guesser" s_is_guesser p_is_guesser f fd) (D_need_guesser : Df K mg "need_guesser" s_need_guesser p_need_guesser f2 fd2) : FnOk P w K mg base CX0 6 f2 fd2 p_need_guesser (spNeedG K) := by
  have G_is_guesser : FnOk P w K mg base CX0 5 f fd p_is_guesser (spIs K 5) := ok_is_guesser T B D_is_guesser 5
  refine D_need_guesser.F.ok sc_need_guesser (fun vs H Q E h => ?_) (fun cdv A outer s H vs Q E hr h => ?_)
  · obtain ⟨r, m, rfl, _⟩ := h
    rfl
  obtain ⟨v, g, rfl, hG, hg, q⟩ := h
  obtain ⟨hi, hW⟩ := isG_good 3 g hg (Nat.le_refl _)
  refine ⟨_, (pss_one (ps_if (pt_not (pt_val (pe_call G_is_guesser (hr.mono (by first | decide | omega)) (by rfl) D_is_guesser.m D_is_guesser.F.kp D_is_guesser.b .nil pass0 (pa_cons (pv 0) (pa_cons pe_int pa_nil)))))
    (pss_one (ps_never))
    (pss_nil))), ?_⟩
  and_intros
  refine ⟨v, g, 0, rfl, hG, hW, by omega, by omega, fun H1 s1 => ?_⟩
  and_intros
  rw [show isG 0 g = true from hi]
  exact q _ s1
end
end St

namespace St
open PySem PySem.Spec PyProof.Rows L2 TL
/-! ### the words of a guesser -/
def strN (n : Int) : Str := Str.ofString (toString n)
def wordsG : G → List Str
  | .leaf w ns => w :: ns.map strN
  | .both a b => "both" :: (wordsG a ++ wordsG b)
  | _ => []
theorem good_leaf {k : Nat} {w : Str} {ns : List Int} (h : good k (.leaf w ns) = true) : (w = "none" ∧ ns = []) ∨ ∃ n, ns = [n] ∧ (n = 1 ∨ n = 2 ∨ n = 3) ∧ (w = "next" ∨ w = "stride" ∨ w = "pairs") := by
  unfold good at h
  rw [Bool.or_eq_true] at h
  rcases h with h | h
  · exact .inl (of_decide_eq_true h)
  · cases ns with
    | nil => simp at h
    | cons n r =>
      cases r with
      | cons _ _ => simp at h
      | nil =>
        have h' := of_decide_eq_true h
        refine .inr ⟨n, rfl, ?_⟩
        rcases h' with ⟨rfl, h1, h2⟩ | ⟨rfl, h1, h2⟩ | ⟨rfl, h1, h2⟩
        · exact ⟨by omega, .inl rfl⟩
        · exact ⟨by omega, .inr (.inl rfl)⟩
        · exact ⟨by omega, .inr (.inr rfl)⟩
theorem len_app (x y : Str) : (x ++ y).length = x.length + y.length := by
  show (x ++ y).cps.size = x.cps.size + y.cps.size
  rw [show (x ++ y).cps = x.cps ++ y.cps from rfl, Array.size_append]
/-- how many signs and words -/
def wt (ws : List Str) : Nat := (ws.map (·.length)).sum + ws.length
theorem wt_append (a b : List Str) : wt (a ++ b) = wt a + wt b := by
  unfold wt
  rw [List.map_append, List.sum_append, List.length_append]
  omega
theorem wt_cons (a : Str) (b : List Str) : wt (a :: b) = a.length + 1 + wt b := by
  unfold wt
  rw [List.map_cons, List.sum_cons, List.length_cons]
  omega
theorem pow_ge (k : Nat) : 1 ≤ 2 ^ k := Nat.one_le_two_pow
theorem wt_words : ∀ (k : Nat) (g : G), good k g = true → wt (wordsG g) + 5 ≤ 14 * 2 ^ k
  | _, .nil, h => by simp [good] at h
  | _, .b1 _, h => by simp [good] at h
  | _, .b3 _ _ _, h => by simp [good] at h
  | 0, .both _ _, h => by simp [good] at h
  | k + 1, .both a b, h => by
    have h' : (good k a && good k b) = true := h
    rw [Bool.and_eq_true] at h'
    have ha := wt_words k a h'.1
    have hb := wt_words k b h'.2
    show wt ("both" :: (wordsG a ++ wordsG b)) + 5 ≤ 14 * 2 ^ (k + 1)
    rw [wt_cons, wt_append, Nat.pow_succ]
    have : ("both" : Str).length = 4 := rfl
    omega
  | k, .leaf w ns, h => by
    have p := pow_ge k
    have e : wt (wordsG (.leaf w ns)) ≤ 9 := by
      rcases good_leaf h with ⟨rfl, rfl⟩ | ⟨n, rfl, hn, hw⟩
      · decide
      · rcases hn with rfl | rfl | rfl <;> rcases hw with rfl | rfl | rfl <;> decide
    omega
theorem words_ne : ∀ (k : Nat) (g : G), good k g = true → wordsG g ≠ []
  | _, .nil, h => by simp [good] at h
  | _, .b1 _, h => by simp [good] at h
  | _, .b3 _ _ _, h => by simp [good] at h
  | _, .both _ _, _ => by unfold wordsG; simp
  | _, .leaf _ _, _ => by unfold wordsG; simp
theorem words_no32 : ∀ (k : Nat) (g : G), good k g = true → ∀ p ∈ wordsG g, (32 : Nat) ∉ tl p
  | _, .nil, h => by simp [good] at h
  | _, .b1 _, h => by simp [good] at h
  | _, .b3 _ _ _, h => by simp [good] at h
  | 0, .both _ _, h => by simp [good] at h
  | k + 1, .both a b, h => by
    have h' : (good k a && good k b) = true := h
    rw [Bool.and_eq_true] at h'
    intro p hp
    rcases List.mem_cons.mp (show p ∈ ("both" : Str) :: (wordsG a ++ wordsG b) from hp) with rfl | hp
    · decide
    · rcases List.mem_append.mp hp with hp | hp
      · exact words_no32 k a h'.1 p hp
      · exact words_no32 k b h'.2 p hp
  | k, .leaf w ns, h => by
    intro p hp
    rcases good_leaf h with ⟨rfl, rfl⟩ | ⟨n, rfl, hn, hw⟩
    · rcases List.mem_cons.mp (show p ∈ ("none" : Str) :: [] from hp) with rfl | hp
      · decide
      · cases hp
    · rcases List.mem_cons.mp (show p ∈ w :: [strN n] from hp) with rfl | hp
      · rcases hw with rfl | rfl | rfl <;> decide
      · rw [List.mem_singleton.mp hp]
        rcases hn with rfl | rfl | rfl <;> decide
/-! ### the text of a guesser, by the law -/
def textG : G → Str
  | .both a b => (((("both " : Str) ++ textG a) ++ (" " : Str)) ++ textG b)
  | g => Txt.join " " (wordsG g)
theorem joinL_append (S : List Nat) : ∀ (xs ys : List (List Nat)), xs ≠ [] → ys ≠ [] → joinL S (xs ++ ys) = joinL S xs ++ (S ++ joinL S ys)
  | [], _, h, _ => absurd rfl h
  | [x], y :: r, _, _ => rfl
  | [_], [], _, h => absurd rfl h
  | x :: z :: r, ys, _, h => by
    show x ++ (S ++ joinL S ((z :: r) ++ ys)) = (x ++ (S ++ joinL S (z :: r))) ++ (S ++ joinL S ys)
    rw [joinL_append S (z :: r) ys (by simp) h, List.append_assoc, List.append_assoc]
theorem str_ext {x y : Str} (h : tl x = tl y) : x = y := by
  obtain ⟨⟨a⟩⟩ := x
  obtain ⟨⟨b⟩⟩ := y
  have e : a = b := h
  rw [e]
theorem text_join : ∀ (k : Nat) (g : G), good k g = true → textG g = Txt.join " " (wordsG g)
  | _, .nil, h => by simp [good] at h
  | _, .b1 _, h => by simp [good] at h
  | _, .b3 _ _ _, h => by simp [good] at h
  | 0, .both _ _, h => by simp [good] at h
  | k + 1, .both a b, h => by
    have h' : (good k a && good k b) = true := h
    rw [Bool.and_eq_true] at h'
    have ha := text_join k a h'.1
    have hb := text_join k b h'.2
    have na := words_ne k a h'.1
    have nb := words_ne k b h'.2
    refine str_ext ?_
    show tl ((((("both " : Str) ++ textG a) ++ (" " : Str)) ++ textG b)) = _
    rw [ha, hb, tl_append, tl_append, tl_append, join_eq, join_eq, join_eq, tl_join, tl_join, tl_join]
    show _ = joinL (tl " ") (tl "both" :: (wordsG a ++ wordsG b).map tl)
    rw [List.map_append]
    have e := joinL_append (tl " ") [tl "both"] ((wordsG a).map tl ++ (wordsG b).map tl) (by simp) (by simp [na])
    rw [List.singleton_append] at e
    rw [e, joinL_append _ _ _ (by simpa using na) (by simpa using nb)]
    show (tl "both " ++ _ ++ tl " ") ++ _ = tl "both" ++ (tl " " ++ (_ ++ (tl " " ++ _)))
    rw [show tl ("both " : Str) = tl "both" ++ tl " " by decide]
    simp only [List.append_assoc]
  | _, .leaf _ _, _ => rfl
theorem join_len : ∀ (ws : List Str), (Txt.join " " ws).length ≤ wt ws := by
  intro ws
  rw [join_eq]
  induction ws with
  | nil => exact Nat.le_refl _
  | cons a r ih =>
    cases r with
    | nil =>
      rw [wt_cons]
      show a.length ≤ _
      omega
    | cons b r =>
      rw [wt_cons]
      show (a ++ " " ++ Str.join " " (b :: r)).length ≤ _
      rw [len_app, len_app]
      have : (" " : Str).length = 1 := rfl
      omega
theorem text_len {k : Nat} {g : G} (h : good k g = true) : (textG g).length + 5 ≤ 14 * 2 ^ k := by
  rw [text_join k g h]
  have a := join_len (wordsG g)
  have b := wt_words k g h
  omega
theorem read_back {k : Nat} {g : G} (h : good k g = true) : Txt.split (textG g) " " = wordsG g := by
  rw [text_join k g h]
  exact split_join (y := " ") (s := 32) (S := []) (by decide) (by decide +kernel) (words_ne k g h) (words_no32 k g h)
end St

namespace St
open PySem PySem.Spec PyProof.Rows L2
abbrev s_first_state : Stmt := topS 11
abbrev N_first_state : List Str := ["guesser"]
abbrev p_first_state : List Str := ["guesser"]
theorem sc_first_state : FnScope N_first_state p_first_state (defScope s_first_state) := ⟨rfl, rfl, rfl, by decide +kernel, rfl, by decide +kernel, by decide +kernel⟩
abbrev s_strided : Stmt := topS 12
abbrev N_strided : List Str := ["trust", "state", "place", "last", "stride", "times", "far"]
abbrev p_strided : List Str := ["trust", "state", "place"]
theorem sc_strided : FnScope N_strided p_strided (defScope s_strided) := ⟨rfl, rfl, rfl, by decide +kernel, rfl, by decide +kernel, by decide +kernel⟩
abbrev s_paired : Stmt := topS 13
abbrev N_paired : List Str := ["many", "state", "place", "last", "known", "behind", "others", "one"]
abbrev p_paired : List Str := ["many", "state", "place"]
theorem sc_paired : FnScope N_paired p_paired (defScope s_paired) := ⟨rfl, rfl, rfl, by decide +kernel, rfl, by decide +kernel, by decide +kernel⟩
abbrev s_stepped : Stmt := topS 14
abbrev N_stepped : List Str := ["guesser", "state", "place", "one", "mine", "other", "theirs", "k", "guess"]
abbrev p_stepped : List Str := ["guesser", "state", "place"]
theorem sc_stepped : FnScope N_stepped p_stepped (defScope s_stepped) := ⟨rfl, rfl, rfl, by decide +kernel, rfl, by decide +kernel, by decide +kernel⟩
section
variable {P : Program} {w : World} {K : PySem.W.Frag} {mg : Str → Option Value} {base : Heap} {f fS fP : Addr} {fd fdS fdP : FuncData}
def spFirst (K : PySem.W.Frag) (n : Nat) : Sp := fun vs H Q _ => ∃ (v : V) (g : G) (k : Nat), vs = [v] ∧ IsG K H g v ∧ good k g = true ∧ k < n ∧ k ≤ 3 ∧ ∀ v' H', Same H H' → IsS K H' (first0 g) v' → Q v' H'
theorem kn_nil {K : PySem.W.Frag} {H : Hp} {q : Addr} {o : Obj} (h : H q = some (.frz o (.tup []))) (d : o.dict = none) : IsKn K H [] q := ⟨o, [], [], h, d, .nil, .nil⟩
theorem ok_first_state (T : Nms mg) (D_first_state : Df K mg "first_state" s_first_state p_first_state f fd) : ∀ n : Nat, FnOk P w K mg base CX0 n f fd p_first_state (spFirst K n)
  | 0 => fn_zero fun vs H Q E ⟨v, g, k, _, _, _, h, _⟩ => by omega
  | n + 1 => by
    have G_first_state := ok_first_state T D_first_state n
    refine D_first_state.F.ok sc_first_state (fun vs H Q E h => ?_) (fun cdv A outer s H vs Q E hr h => ?_)
    · obtain ⟨r, m, wi, rfl, _⟩ := h
      rfl
    obtain ⟨v, g, k, rfl, hG, hg, hk, hk3, q⟩ := h
    refine ⟨_, (pss_cons (ps_if (pt_cmpR op_eq (pe_ix ix_tup (pv 0) pe_int (fun _ _ => rfl)) pe_str (nomark _))
    (pss_one (ps_ret (pe_tup (pa_cons (pe_call G_first_state (hr.mono (by first | decide | omega)) (by rfl) D_first_state.m D_first_state.F.kp D_first_state.b .nil pass0 (pa_cons (pe_ix ix_tup (pv 0) pe_int (fun _ _ => rfl)) pa_nil)) (pa_cons (pe_call G_first_state (hr.mono (by first | decide | omega)) (by rfl) D_first_state.m D_first_state.F.kp D_first_state.b .nil pass0 (pa_cons (pe_ix ix_tup (pv 0) pe_int (fun _ _ => rfl)) pa_nil)) pa_nil)))))
    (pss_nil))
  (pss_one (ps_ret (pe_ifExp (pt_cmpR op_eq (pe_ix ix_tup (pv 0) pe_int (fun _ _ => rfl)) pe_str (nomark _)) (pe_tup (pa_cons pe_non (pa_cons pe_int (pa_cons pe_int pa_nil)))) (pe_tup (pa_cons pe_non (pa_cons (pe_tupF pa_nil) pa_nil))))))), ?_⟩
    cases g with
    | leaf z ns =>
      obtain ⟨p, rfl, hp⟩ := hG
      have hz : z ≠ ("both" : Str) := (isG_good k _ hg hk3).2
      and_intros
      refine iteB0 (decide_eq_false fun x => hz (V.str.inj x)) ?_
      and_intros
      by_cases c : z = "stride"
      · refine iteB (decide_eq_true (congrArg V.str c)) ?_
        and_intros
        intro p1 n1
        exact q _ _ (same_upd n1) (by rw [show first0 (.leaf z ns) = .str none 0 0 from if_pos c]; exact ⟨p1, rfl, sqt upd_same⟩)
      · refine iteB0 (decide_eq_false fun x => c (V.str.inj x)) ?_
        and_intros
        intro p1 o1 n1 d1
        and_intros
        intro p2 n2
        refine q _ _ (by ac_rfl) ?_
        rw [show first0 (.leaf z ns) = .prs none [] from if_neg c]
        exact ⟨p2, p1, rfl, sqt upd_same, kn_nil (by infer_instance) d1⟩
    | both a b =>
      cases k with
      | zero => simp [good] at hg
      | succ k =>
      obtain ⟨p, x, y, rfl, hp, ha, hb⟩ := hG
      have h' : (good k a && good k b) = true := hg
      rw [Bool.and_eq_true] at h'
      and_intros
      refine ⟨x, a, k, rfl, ha, h'.1, by omega, by omega, fun v1 H1 s1 i1 => ?_⟩
      have hp1 := same_t s1 hp
      and_intros
      refine ⟨y, b, k, rfl, hb.same s1, h'.2, by omega, by omega, fun v2 H2 s2 i2 => ?_⟩
      and_intros
      intro p3 n3
      exact q _ _ (by ac_rfl) ⟨p3, v1, v2, rfl, sqt upd_same, (i1.same s2).same (same_upd n3), i2.same (same_upd n3)⟩
    | _ => simp [good] at hg
/-- what a step tells -/
def StepQ (K : PySem.W.Frag) (H : Hp) (Q : VK) (r : Sg × List Int) : Prop := ∀ (q l : Addr) (v : V) (H' : Hp), Same H H' → H l = none → IsS K H' r.1 v → H' l = some (.lst (r.2.map V.int)) → H' q = some (.tup [v, .ref l]) → Q (.ref q) H'
def spStrided (K : PySem.W.Frag) : Sp := fun vs H Q _ => ∃ (v : V) (l : Option Int) (tr st t p : Int), vs = [.int tr, v, .int p] ∧ IsS K H (.str l st t) v ∧ StepQ K H Q (strStep tr l st t p)
theorem ok_strided (T : Nms mg) (F : Fun K "strided" "strided" s_strided f fd) : FnOk P w K mg base CX0 1 f fd p_strided (spStrided K) := by
  refine F.ok sc_strided (fun vs H Q E h => ?_) (fun cdv A outer s H vs Q E hr h => ?_)
  · obtain ⟨v, l, tr, st, t, p, rfl, _⟩ := h
    rfl
  obtain ⟨v, l, tr, st, t, p, rfl, ⟨a, rfl, ha⟩, q⟩ := h
  refine ⟨_, (pss_cons (ps_asg (pv 1) (pg_tup rfl (pgs_cons (pg_name (i := 3) sc_strided.nd rfl (Or.inl rfl)) (pgs_cons (pg_name (i := 4) sc_strided.nd rfl (Or.inl rfl)) (pgs_cons (pg_name (i := 5) sc_strided.nd rfl (Or.inl rfl)) pgs_nil)))))
  (pss_cons (ps_if (pt_cmpR op_isN (pv 3) pe_non (nomark _))
    (pss_one (ps_ret (pe_tup (pa_cons (pe_tup (pa_cons (pv 2) (pa_cons pe_int (pa_cons pe_int pa_nil)))) (pa_cons (pe_lst pa_nil) pa_nil)))))
    (pss_nil))
  (pss_cons (ps_set (i := 6) sc_strided.nd rfl (Or.inl rfl) (pe_op op_sub (pv 2) (pv 3)))
  (pss_cons (ps_set (i := 5) sc_strided.nd rfl (Or.inl rfl) (pe_ifExp (pt_cmpR op_eq (pv 6) (pv 4) (nomark _)) (pe_op op_add (pv 5) pe_int) pe_int))
  (pss_one (ps_ret (pe_tup (pa_cons (pe_tup (pa_cons (pv 2) (pa_cons (pv 6) (pa_cons (pv 5) pa_nil)))) (pa_cons (pe_ifExp (PW.pt (pw_and (pt_cmpR op_ne (pv 6) pe_int (nomark _)) (pw_and1 (pt_cmpR op_ge (pv 5) (pv 0) (nomark _))))) (pe_lst (pa_cons (pe_op op_add (pv 2) (pv 6)) pa_nil)) (pe_lst pa_nil)) pa_nil))))))))), ?_⟩
  cases l with
  | none =>
    refine ⟨_, rfl, a, _, rfl, ha, rfl, _, _, rfl, _, _, rfl, _, _, rfl, rfl, ?_⟩
    and_intros
    intro p1 n1
    and_intros
    intro l1 nl1
    and_intros
    intro p2 n2
    have z : H l1 = none := (same_upd n1).free nl1
    exact q p2 l1 (.ref p1) _ (by ac_rfl) z ⟨p1, rfl, (by infer_instance)⟩ (by infer_instance) upd_same
  | some x =>
    refine ⟨_, rfl, a, _, rfl, ha, rfl, _, _, rfl, _, _, rfl, _, _, rfl, rfl, ?_⟩
    and_intros
    have q0 : StepQ K H Q (.str (some p) (p - x) (if p - x = st then t + 1 else 1), if p - x ≠ 0 ∧ tr ≤ (if p - x = st then t + 1 else 1) then [p + (p - x)] else []) := q
    have fin : ∀ t' : Int, StepQ K H Q (.str (some p) (p - x) t', if p - x ≠ 0 ∧ tr ≤ t' then [p + (p - x)] else []) →
        tRet (tTup (tCons (tTup (tCons (tVar 2) (tCons (tVar 6) (tCons (tVar 5) tNil)))) (tCons (tIf (tAnd (tTest (tOp rNe (tVar 6) (tC (.int 0)))) (tTest (tOp (rI0 fun i j => .bl (decide (j ≤ i))) (tVar 5) (tVar 0)))) (tLst (tCons (tOp (rI0 fun i j => .int (i + j)) (tVar 2) (tVar 6)) tNil)) (tLst tNil)) tNil)))
          { nx := fun _ H' => Q .non H', rt := Q } [some (.int tr), some (.ref a), some (.int p), some (.int x), some (.int st), some (.int t'), some (.int (p - x))] H := fun t' q1 => by
      and_intros
      intro p1 n1
      and_intros
      by_cases c1 : p - x = 0
      · refine iteB0 (by rw [decide_eq_true (congrArg V.int c1)]; rfl) ?_
        refine iteB0 rfl ?_
        rw [if_neg (fun z => z.1 c1)] at q1
        and_intros
        intro l1 nl1
        and_intros
        intro p2 n2
        exact q1 p2 l1 (.ref p1) _ (by ac_rfl) ((same_upd n1).free nl1) ⟨p1, rfl, (by infer_instance)⟩ (by infer_instance) upd_same
      · refine iteB (by rw [decide_eq_false fun z => c1 (V.int.inj z)]; rfl) ?_
        and_intros
        by_cases c2 : tr ≤ t'
        · refine iteB (decide_eq_true c2) ?_
          rw [if_pos ⟨c1, c2⟩] at q1
          and_intros
          intro l1 nl1
          and_intros
          intro p2 n2
          exact q1 p2 l1 (.ref p1) _ (by ac_rfl) ((same_upd n1).free nl1) ⟨p1, rfl, (by infer_instance)⟩ (by infer_instance) upd_same
        · refine iteB0 (decide_eq_false c2) ?_
          rw [if_neg (fun z => c2 z.2)] at q1
          and_intros
          intro l1 nl1
          and_intros
          intro p2 n2
          exact q1 p2 l1 (.ref p1) _ (by ac_rfl) ((same_upd n1).free nl1) ⟨p1, rfl, (by infer_instance)⟩ (by infer_instance) upd_same
    by_cases c : p - x = st
    · rw [if_pos c] at q0
      refine iteB (decide_eq_true (congrArg V.int c)) ?_
      refine ⟨_, rfl, _, _, rfl, rfl, ?_⟩
      exact fin _ q0
    · rw [if_neg c] at q0
      refine iteB0 (decide_eq_false fun e => c (V.int.inj e)) ?_
      exact fin _ q0
/-! ### pairs -/
theorem pr_dk {K : PySem.W.Frag} {H : Hp} : ∀ {ps : List Addr} {ku : List (Int × Addr)}, Paired (fun (p : Addr) (e : Int × Addr) => SqT K H p [.int e.1, .ref e.2]) ps ku → Paired (fun (p : Addr) (kv : Key × V) => SqT K H p [kV kv.1, kv.2]) ps (dk ku)
  | _, _, .nil => .nil
  | _, _, .cons h r => .cons h (pr_dk r)
def spPaired (K : PySem.W.Frag) : Sp := fun vs H Q _ => ∃ (v : V) (l : Option Int) (many : Int) (kn : List (Int × List Int)) (p : Int) (N : Nat), vs = [.int many, v, .int p] ∧ IsS K H (.prs l kn) v ∧ 1 ≤ many ∧ many ≤ 3 ∧ okS N (.prs l kn) ∧ N ≤ 10000 ∧
  StepQ K H Q (.prs (some p) (knStep many l kn p), lookK (knStep many l kn p) p)
theorem ok_paired (T : Nms mg) (F : Fun K "paired" "paired" s_paired f fd) : FnOk P w K mg base CX0 1 f fd p_paired (spPaired K) := by
  refine F.ok sc_paired (fun vs H Q E h => ?_) (fun cdv A outer s H vs Q E hr h => ?_)
  · obtain ⟨v, l, many, kn, p, N, rfl, _⟩ := h
    rfl
  obtain ⟨v, l, many, kn, p, N, rfl, ⟨a, b, rfl, ha, hk⟩, hm, hm3, hok, hN, q⟩ := h
  refine ⟨_, (pss_cons (ps_asg (pv 1) (pg_tup rfl (pgs_cons (pg_name (i := 3) sc_paired.nd rfl (Or.inl rfl)) (pgs_cons (pg_name (i := 4) sc_paired.nd rfl (Or.inl rfl)) pgs_nil))))
  (pss_cons (ps_set (i := 5) sc_paired.nd rfl (Or.inl rfl) (pe_callTy (call_dictT rfl) (by rfl) T.n_dict (by decide +kernel) (pa_cons (pv 4) pa_nil)))
  (Evl.pss_cut (ps_if (pt_cmpR op_notN (pv 3) pe_non (nomark _))
    (pss_cons (ps_setLc (i := 6) (own := [("one", 7)]) (g := gName 7) rfl sc_paired.nd rfl rfl (sw_true rfl rfl rfl (by decide +kernel)) (pi_tup (pe_dget2 (hu_of hr) (pv 5) (pv 3) (pe_tup pa_nil) ⟨rfl, rfl, rfl, rfl⟩)) (blkOk_by (own := [("one", 7)]) (N := N_paired) (sc := defScope s_paired) (by decide +kernel)) (fun _ _ _ _ _ => pg_name (i := 7) sc_paired.nd rfl (Or.inl rfl)) (fun _ _ _ _ _ => pts_one (pt_cmpR op_ne (pv 7) (pv 2) (nomark _))) (fun _ _ _ _ _ => (pv 7)))
    (pss_one (ps_dput (hu_of hr) (pv 5) (pv 3) (pe_callTy call_tuple_of (by rfl) T.n_tuple (by decide +kernel) (pa_cons (pe_op op_cat (pe_lst (pa_cons (pv 2) pa_nil)) (pe_slice sl_list (pv 6) po_none (po_some (pe_op op_sub (pv 0) pe_int)))) pa_nil)) rfl)))
    (pss_nil))
  (pss_one (ps_ret (pe_tup (pa_cons (pe_tup (pa_cons (pv 2) (pa_cons (pe_callTy call_tupF (by rfl) T.n_tuple (by decide +kernel) (pa_cons (pe_callB (cr_sortedItemsK rfl) (by rfl) T.n_sorted (by decide +kernel) (pa_cons (pe_bm0 PySem.F.plainAttrs_dict PySem.F.slot_dict_items PySem.F.type_dict_items mt_itemsK (pv 5)) pa_nil)) pa_nil)) pa_nil))) (pa_cons (pe_callTy call_list_of (by rfl) T.n_list (by decide +kernel) (pa_cons (pe_dget2 (hu_of hr) (pv 5) (pv 2) (pe_tup pa_nil) ⟨rfl, rfl, rfl, rfl⟩) pa_nil)) pa_nil)))))))), ?_⟩
  refine ⟨_, rfl, a, _, rfl, ha, rfl, _, _, rfl, _, _, rfl, rfl, ?_⟩
  and_intros
  obtain ⟨ob, ps, ku, e1, e2, e3, e4⟩ := hk
  obtain ⟨o1, o2, o3⟩ := hok
  have hrise : (ku.map (·.1)).Pairwise (· < ·) := by rw [e4.keys]; exact o2
  have hlen : ku.length ≤ N := by rw [← e4.len]; exact o1
  refine ⟨b, ob, ps, dk ku, rfl, e1, e2, ?_, fun D nD => ?_⟩
  · exact pr_dk e3
  rw [merge_dk hrise]
  have sD : Same H (upd H D (.dK (dk ku))) := same_upd nD
  have hD : (upd H D (.dK (dk ku))) D = some (.dK (dk ku)) := upd_same
  generalize upd H D (.dK (dk ku)) = H1 at sD hD ⊢
  refine ⟨fun σ' H' => ∃ y6 y7 mu, σ' = [some (.int many), some (.ref a), some (.int p), some (optV l), some (.ref b), some (.ref D), y6, y7] ∧ Same H H' ∧ H' D = some (.dK (dk mu)) ∧ (mu.map (·.1)).Nodup ∧
    ∀ m' : List (Int × Addr), m'.Perm mu → (m'.map (·.1)).Pairwise (· < ·) → Ku K H' (knStep many l kn p) m', ?_, fun σ' H' h => ?_⟩
  · cases l with
    | none =>
      and_intros
      refine ⟨none, none, ku, rfl, sD, hD, rise_nodup hrise, fun m' pm hm => ?_⟩
      rw [rise_uniq pm hm hrise]
      exact e4.imm (Imm.same sD)
    | some x =>
      and_intros
      refine ⟨.inl ⟨_, .inl hD⟩, _, rfl, ?_⟩
      and_intros
      intro p4 n4
      have hD4 : (upd H1 p4 (.tup [])) D = some (.dK (dk ku)) := same_upd n4 _ _ hD
      refine ⟨_, DGet.k (k := Sum.inl x) hD4, ?_⟩
      rw [val_dk]
      have e4' : Ku K (upd H1 p4 (.tup [])) kn ku := e4.imm (Imm.same (sD.trans (same_upd n4)))
      have sD4 : Same H (upd H1 p4 (.tup [])) := sD.trans (same_upd n4)
      have hemp : SqT K (upd H1 p4 (.tup [])) p4 [] := sqt upd_same
      generalize upd H1 p4 (.tup []) = H2 at hD4 e4' sD4 hemp ⊢
      obtain ⟨t, ht, hv⟩ : ∃ t, (((ku.lookup x).map V.ref).getD (.ref p4)) = .ref t ∧ SqT K H2 t ((lookK kn x).map V.int) := by
        rcases Ku.look x e4' with ⟨b1, b2⟩ | ⟨v, u, b1, b2, b3⟩
        · refine ⟨p4, by rw [b2]; rfl, ?_⟩
          unfold lookK
          rw [b1]
          exact hemp
        · refine ⟨u, by rw [b2]; rfl, ?_⟩
          unfold lookK
          rw [b1]
          exact b3
      rw [ht]
      have lk3 : (lookK kn x).length ≤ 3 := lookK_len o3 x
      refine ⟨t, rfl, ⟨_, hv⟩, fun L nL => ?_⟩
      refine lc_tup (xs := (lookK kn x).map V.int) (fun i H' => Same H2 H' ∧ H' L = some (.lst ((((lookK kn x).take i).filter fun e => decide (e ≠ p)).map V.int))) ⟨same_upd nL, upd_same⟩ (fun i H' _ h => same_t h.1 hv) (fun i y H' hi h => ?_) (fun H' h => ?_)
      · refine ⟨rfl, ?_⟩
        rw [List.getElem?_map] at hi
        cases e : (lookK kn x)[i]? with
        | none => rw [e] at hi; cases hi
        | some m =>
          rw [e] at hi
          cases Option.some.inj hi
          and_intros
          have tk : (lookK kn x).take (i + 1) = (lookK kn x).take i ++ [m] := by rw [List.take_add_one, e]; rfl
          have sz1 : (((lookK kn x).take i).filter fun e => decide (e ≠ p)).length ≤ 3 := Nat.le_trans (List.length_filter_le _ _) (by rw [List.length_take]; omega)
          by_cases c : m = p
          · refine iteB0 (by rw [decide_eq_true (congrArg V.int c)]; rfl) ?_
            refine ⟨h.1, ?_⟩
            rw [h.2, tk, List.filter_append, List.filter_cons, if_neg (by rw [decide_eq_false (fun z => z c)]; exact Bool.false_ne_true)]
            rw [List.filter_nil, List.append_nil]
          · refine iteB (by rw [decide_eq_false fun z => c (V.int.inj z)]; rfl) ?_
            refine ⟨_, rfl, _, h.2, by rw [List.length_map]; exact szl (by omega), same_mut h.1 nL, ?_⟩
            rw [upd_same, tk, List.filter_append, List.filter_cons, if_pos (decide_eq_true c), List.filter_nil, List.map_append]
            rfl
      · have tk : (lookK kn x).take (List.map V.int (lookK kn x)).length = lookK kn x := by rw [List.length_map]; exact List.take_length
        rw [tk] at h
        generalize hoth : ((lookK kn x).filter fun e => decide (e ≠ p)) = oth at h
        have lo : oth.length ≤ 3 := by rw [← hoth]; exact Nat.le_trans (List.length_filter_le _ _) lk3
        have hL : SqL K H' L (oth.map V.int) := sql h.2
        have dD : H' D = some (.dK (dk ku)) := h.1 _ _ hD4
        and_intros
        intro l1 n1
        have hL1 := same_l (same_upd (o := .lst [.int p]) n1) hL
        and_intros
        intro l2 n2
        have cutE : cutV (oth.map V.int) none (some (many - 1)) = (oth.take (many - 1).toNat).map V.int := by
          unfold cutV
          rw [HT.sIx_none]
          obtain ⟨mn, rfl⟩ : ∃ mn : Nat, many = (mn : Int) + 1 := ⟨(many - 1).toNat, by omega⟩
          have e : ((mn : Int) + 1 - 1) = ((mn : Nat) : Int) := by omega
          rw [e, HT.sIx_nat]
          rw [List.drop_zero, Int.toNat_natCast, ← List.map_take]
          congr 1
          rw [List.length_map]
          by_cases c : mn ≤ oth.length
          · rw [Nat.min_eq_left c]; rfl
          · rw [Nat.min_eq_right (by omega), List.take_of_length_le (by omega), List.take_of_length_le (by omega)]
        rw [cutE]
        have lt : (oth.take (many - 1).toNat).length ≤ 3 := by rw [List.length_take]; omega
        refine ⟨_, _, _, _, rfl, rfl, (by infer_instance), upd_same, by rw [List.length_map]; exact sz (by show 1 + _ ≤ _; omega), fun l3 n3 => ?_⟩
        refine ⟨l3, _, rfl, .inl ⟨sql upd_same, fun u nu => ?_⟩⟩
        have sF : Same H (upd (upd (upd (upd H' l1 (.lst [.int p])) l2 (.lst ((oth.take (many - 1).toNat).map V.int))) l3 (.lst ([.int p] ++ (oth.take (many - 1).toNat).map V.int))) u (.tup ([.int p] ++ (oth.take (many - 1).toNat).map V.int))) := by
          have z : Same H H' := sD4.trans h.1
          ac_rfl
        have dF : (upd (upd (upd (upd H' l1 (.lst [.int p])) l2 (.lst ((oth.take (many - 1).toNat).map V.int))) l3 (.lst ([.int p] ++ (oth.take (many - 1).toNat).map V.int))) u (.tup ([.int p] ++ (oth.take (many - 1).toNat).map V.int))) D = some (.dK (dk ku)) := by infer_instance
        have uF : (upd (upd (upd (upd H' l1 (.lst [.int p])) l2 (.lst ((oth.take (many - 1).toNat).map V.int))) l3 (.lst ([.int p] ++ (oth.take (many - 1).toNat).map V.int))) u (.tup ([.int p] ++ (oth.take (many - 1).toNat).map V.int))) u = some (.tup ((p :: oth.take (many - 1).toNat).map V.int)) := upd_same
        generalize (upd (upd (upd (upd H' l1 (.lst [.int p])) l2 (.lst ((oth.take (many - 1).toNat).map V.int))) l3 (.lst ([.int p] ++ (oth.take (many - 1).toNat).map V.int))) u (.tup ([.int p] ++ (oth.take (many - 1).toNat).map V.int))) = H7 at sF dF uF ⊢
        and_intros
        refine ⟨D, _, rfl, DPut.k (k := Sum.inl x) dF (by unfold dk; rw [List.length_map]; exact szl (by omega)), ?_⟩
        rw [put_dk]
        refine ⟨_, _, dput ku x u, rfl, same_mut sF nD, upd_same, dput_nodup hrise x u, fun m' pm hm => ?_⟩
        have em : m' = insK x u ku := rise_uniq (pm.trans (dput_perm hrise x u).symm) hm (insK_rise hrise)
        rw [em]
        have nuD : u ≠ D := ne_of uF dF (by intro z; cases z)
        have hu : SqT K (upd H7 D (.dK (dk (dput ku x u)))) u ((p :: oth.take (many - 1).toNat).map V.int) := sqt (by rw [upd_ne nuD]; exact uF)
        have hk7 : Ku K (upd H7 D (.dK (dk (dput ku x u)))) kn ku := e4.imm (Imm.same (same_mut sF nD))
        rw [← hoth] at hu
        exact Ku.ins hu hk7
  · obtain ⟨y6, y7, mu, rfl, s1, d1, nd, hmu⟩ := h
    and_intros
    refine ⟨.inr (.inr (.inl ⟨rfl, .inl ⟨_, d1⟩⟩)), D, _, rfl, rfl, d1, fun it nit => ?_⟩
    have nd' : ((mu.map rv).map (·.1)).Nodup := by
      rw [List.map_map]
      exact nd
    have d2 : (upd H' it (DX.itemsO it D)) D = some (.dK ((mu.map rv).map fun e => (Sum.inl e.1, e.2))) := by
      rw [List.map_map]
      exact same_upd nit _ _ d1
    refine ⟨it, D, mu.map rv, rfl, upd_same, d2, nd', fun H2 l2 zs s2 n2 pm hr e2 ez => ?_⟩
    obtain ⟨m', pm', em'⟩ := perm_lift rv pm mu rfl
    have hr' : (m'.map (·.1)).Pairwise (· < ·) := by
      have z : m'.map (·.1) = zs.map (·.2.1) := by
        have z := congrArg (List.map (·.1)) em'
        rw [List.map_map, List.map_map] at z
        exact z
      rw [z]
      exact hr
    have kk := hmu m' pm' hr'
    have i2 : Imm H' H2 := Imm.same ((same_upd nit).trans s2)
    have pr := pr_zs (K := K) (H := H2) em'.symm fun z hz => sqt (ez z hz)
    refine ⟨l2, _, rfl, sql e2, fun t o nt dt => ?_⟩
    have d3 : H2 D = some (.dK (dk mu)) := ((same_upd nit).trans s2) _ _ d1
    have ezs : zs.map (fun z => V.ref z.1) = (zs.map (·.1)).map V.ref := by rw [List.map_map]; rfl
    rw [ezs]
    and_intros
    intro p3 n3
    and_intros
    have d4 : (upd (upd H2 t (.frz o (.tup ((zs.map (·.1)).map V.ref)))) p3 (.tup [.int p, .ref t])) D = some (.dK (dk mu)) := by infer_instance
    refine ⟨.inl ⟨_, .inl d4⟩, _, rfl, ?_⟩
    and_intros
    intro p4 n4
    have d5 : (upd (upd (upd H2 t (.frz o (.tup ((zs.map (·.1)).map V.ref)))) p3 (.tup [.int p, .ref t])) p4 (.tup [])) D = some (.dK (dk mu)) := by infer_instance
    refine ⟨_, DGet.k (k := Sum.inl p) d5, ?_⟩
    rw [val_dk]
    have hK : IsKn K (upd H2 t (.frz o (.tup ((zs.map (·.1)).map V.ref)))) (knStep many l kn p) t := ⟨o, _, m', upd_same, dt, Paired.mapP pr fun _ _ z => same_t (same_upd nt) z, (kk.imm i2).imm (Imm.same (same_upd nt))⟩
    have sA : Same H (upd (upd H2 t (.frz o (.tup ((zs.map (·.1)).map V.ref)))) p3 (.tup [.int p, .ref t])) := by
      have z1 : Same H (upd H' it (DX.itemsO it D)) := s1.trans (same_upd nit)
      ac_rfl
    have hS : IsS K (upd (upd H2 t (.frz o (.tup ((zs.map (·.1)).map V.ref)))) p3 (.tup [.int p, .ref t])) (.prs (some p) (knStep many l kn p)) (.ref p3) := ⟨p3, t, rfl, sqt upd_same, hK.imm (Imm.same (same_upd n3))⟩
    have hlk : mu.lookup p = m'.lookup p := (lookup_perm pm' nd).symm
    have kk2 := ((kk.imm i2).imm (Imm.same (same_upd (o := .frz o (.tup ((zs.map (·.1)).map V.ref))) nt))).imm (Imm.same (same_upd (o := .tup [.int p, .ref t]) n3))
    rw [hlk]
    have done : ∀ (H5 : Hp) (l5 : Addr), Same (upd (upd H2 t (.frz o (.tup ((zs.map (·.1)).map V.ref)))) p3 (.tup [.int p, .ref t])) H5 → (upd (upd H2 t (.frz o (.tup ((zs.map (·.1)).map V.ref)))) p3 (.tup [.int p, .ref t])) l5 = none → H5 l5 = some (.lst ((lookK (knStep many l kn p) p).map V.int)) →
        [V.ref p3, V.ref l5].length ≤ sizeLine ∧ ∀ q5, H5 q5 = none → Q (.ref q5) (upd H5 q5 (.tup [.ref p3, .ref l5])) := fun H5 l5 s5 n5 e5 => by
      refine ⟨sz_2, fun q5 nq5 => ?_⟩
      exact q q5 l5 (.ref p3) _ ((sA.trans s5).trans (same_upd nq5)) (sA.free n5) ((hS.same s5).same (same_upd nq5)) (same_upd nq5 _ _ e5) upd_same
    rcases Ku.look p kk2 with ⟨b1, b2⟩ | ⟨v, u, b1, b2, b3⟩
    · rw [b2]
      refine ⟨p4, [], rfl, .inr (sqt upd_same), fun l5 nl5 => ?_⟩
      have z : Same (upd (upd H2 t (.frz o (.tup ((zs.map (·.1)).map V.ref)))) p3 (.tup [.int p, .ref t])) (upd (upd (upd (upd H2 t (.frz o (.tup ((zs.map (·.1)).map V.ref)))) p3 (.tup [.int p, .ref t])) p4 (.tup [])) l5 (.lst [])) := by ac_rfl
      refine done _ l5 z ((same_upd n4).free nl5) ?_
      rw [upd_same]
      unfold lookK
      rw [b1]
      rfl
    · rw [b2]
      refine ⟨u, _, rfl, .inr (same_t (same_upd n4) b3), fun l5 nl5 => ?_⟩
      have z : Same (upd (upd H2 t (.frz o (.tup ((zs.map (·.1)).map V.ref)))) p3 (.tup [.int p, .ref t])) (upd (upd (upd (upd H2 t (.frz o (.tup ((zs.map (·.1)).map V.ref)))) p3 (.tup [.int p, .ref t])) p4 (.tup [])) l5 (.lst (v.map V.int))) := by ac_rfl
      refine done _ l5 z ((same_upd n4).free nl5) ?_
      rw [upd_same]
      unfold lookK
      rw [b1]
      rfl
/-! ### a step of any guesser -/
theorem hd_good {k : Nat} {z : Str} {ns : List Int} (h : good k (.leaf z ns) = true) (hz : z ≠ ("none" : Str)) : ∃ n, ns = [n] ∧ 1 ≤ n ∧ n ≤ 3 := by
  rcases good_leaf h with ⟨e, _⟩ | ⟨n, e, hn, _⟩
  · exact absurd e hz
  · exact ⟨n, e, by omega, by omega⟩
theorem stepG_len : ∀ {k : Nat} {g : G} {s : Sg} {p : Int} {N : Nat}, good k g = true → Fit g s → okS N s → (stepG g s p).2.length ≤ 3 * 2 ^ k
  | _, .nil, _, _, _, h, _, _ => by simp [good] at h
  | _, .b1 _, _, _, _, h, _, _ => by simp [good] at h
  | _, .b3 _ _ _, _, _, _, h, _, _ => by simp [good] at h
  | 0, .both _ _, _, _, _, h, _, _ => by simp [good] at h
  | k + 1, .both a b, .both s t, p, N, h, f, o => by
    have h' : (good k a && good k b) = true := h
    rw [Bool.and_eq_true] at h'
    have ha := stepG_len (p := p) h'.1 f.1 o.1
    have hb := stepG_len (p := p) h'.2 f.2 o.2
    show ((stepG a s p).2 ++ (stepG b t p).2.filter _).length ≤ _
    have z := List.length_filter_le (fun e => decide (e ∉ (stepG a s p).2)) (stepG b t p).2
    rw [List.length_append, Nat.pow_succ]
    omega
  | _, .both _ _, .str _ _ _, _, _, _, f, _ => f.elim
  | _, .both _ _, .prs _ _, _, _, _, f, _ => f.elim
  | k, .leaf z ns, s, p, N, h, f, o => by
    have pw := pow_ge k
    by_cases c1 : z = "none"
    · have e : stepG (.leaf z ns) s p = (s, []) := if_pos c1
      rw [e]
      exact Nat.zero_le _
    · obtain ⟨n, rfl, h1, h3⟩ := hd_good h c1
      by_cases c2 : z = "next"
      · have e : stepG (.leaf z [n]) s p = (s, (List.range n.toNat).map fun (k : Nat) => p + (k : Int) + 1) := (if_neg c1).trans (if_pos c2)
        rw [e, List.length_map, List.length_range]
        omega
      · cases s with
        | both _ _ => exact f.elim
        | str l st t =>
          have e : stepG (.leaf z [n]) (.str l st t) p = strStep n l st t p := (if_neg c1).trans (if_neg c2)
          rw [e]
          have : (strStep n l st t p).2.length ≤ 1 := by
            unfold strStep
            cases l with
            | none => exact Nat.zero_le _
            | some x =>
              dsimp only
              split <;> (split <;> first | exact Nat.le_refl _ | exact Nat.zero_le _)
          omega
        | prs l kn =>
          have e : stepG (.leaf z [n]) (.prs l kn) p = (.prs (some p) (knStep n l kn p), lookK (knStep n l kn p) p) := (if_neg c1).trans (if_neg c2)
          rw [e]
          have := lookK_len (knStep_ok (many := n) h3 (p := p) o).2.2 p
          show (lookK _ _).length ≤ _
          omega
def spStepped (K : PySem.W.Frag) (n : Nat) : Sp := fun vs H Q _ => ∃ (v u : V) (g : G) (s : Sg) (p : Int) (k N : Nat), vs = [v, u, .int p] ∧ IsG K H g v ∧ IsS K H s u ∧ good k g = true ∧ k < n ∧ k ≤ 3 ∧ Fit g s ∧ okS N s ∧ N ≤ 10000 ∧ StepQ K H Q (stepG g s p)
theorem ok_stepped (T : Nms mg) (D_strided : Df K mg "strided" s_strided p_strided fS fdS) (D_paired : Df K mg "paired" s_paired p_paired fP fdP) (D_stepped : Df K mg "stepped" s_stepped p_stepped f fd) : ∀ n : Nat, FnOk P w K mg base CX0 (n + 1) f fd p_stepped (spStepped K n)
  | 0 => fn_zero fun vs H Q E ⟨v, u, g, s, p, k, N, _, _, _, _, h, _⟩ => by omega
  | n + 1 => by
    have G_stepped := ok_stepped T D_strided D_paired D_stepped n
    have G_strided : FnOk P w K mg base CX0 1 fS fdS p_strided (spStrided K) := ok_strided T D_strided.F
    have G_paired : FnOk P w K mg base CX0 1 fP fdP p_paired (spPaired K) := ok_paired T D_paired.F
    refine D_stepped.F.ok sc_stepped (fun vs H Q E h => ?_) (fun cdv A outer s H vs Q E hr h => ?_)
    · obtain ⟨v, u, g, s, p, k, N, rfl, _⟩ := h
      rfl
    obtain ⟨v, u, g, s, p, k, N, rfl, hG, hS, hg, hk, hk3, hf, ho, hN, q⟩ := h
    refine ⟨_, (pss_cons (ps_if (pt_cmpR op_eq (pe_ix ix_tup (pv 0) pe_int (fun _ _ => rfl)) pe_str (nomark _))
    (pss_one (ps_ret (pe_tup (pa_cons (pv 1) (pa_cons (pe_lst pa_nil) pa_nil)))))
    (pss_nil))
  (pss_cons (ps_if (pt_cmpR op_eq (pe_ix ix_tup (pv 0) pe_int (fun _ _ => rfl)) pe_str (nomark _))
    (pss_one (ps_ret (pe_tup (pa_cons (pv 1) (pa_cons (pe_lc (own := [("k", 7)]) (g := gName 7) rfl sc_stepped.nd (pi_range1 rfl T.n_range (pa_cons (pe_ix ix_tup (pv 0) pe_int (fun _ _ => rfl)) pa_nil)) (blkOk_by (own := [("k", 7)]) (N := N_stepped) (sc := defScope s_stepped) (by decide +kernel)) (fun _ _ _ _ _ => pg_name (i := 7) sc_stepped.nd rfl (Or.inl rfl)) (fun _ _ _ _ _ => pts_nil) (fun _ _ _ _ _ => (pe_op op_add (pe_op op_add (pv 2) (pv 7)) pe_int))) pa_nil)))))
    (pss_nil))
  (pss_cons (ps_if (pt_cmpR op_eq (pe_ix ix_tup (pv 0) pe_int (fun _ _ => rfl)) pe_str (nomark _))
    (pss_one (ps_ret (pe_call G_strided (hr.mono (by first | decide | omega)) (by rfl) D_strided.m D_strided.F.kp D_strided.b .nil pass0 (pa_cons (pe_ix ix_tup (pv 0) pe_int (fun _ _ => rfl)) (pa_cons (pv 1) (pa_cons (pv 2) pa_nil))))))
    (pss_nil))
  (pss_cons (ps_if (pt_cmpR op_eq (pe_ix ix_tup (pv 0) pe_int (fun _ _ => rfl)) pe_str (nomark _))
    (pss_one (ps_ret (pe_call G_paired (hr.mono (by first | decide | omega)) (by rfl) D_paired.m D_paired.F.kp D_paired.b .nil pass0 (pa_cons (pe_ix ix_tup (pv 0) pe_int (fun _ _ => rfl)) (pa_cons (pv 1) (pa_cons (pv 2) pa_nil))))))
    (pss_nil))
  (pss_cons (ps_asg (pe_call G_stepped (hr.mono (by first | decide | omega)) (by rfl) D_stepped.m D_stepped.F.kp D_stepped.b .nil pass0 (pa_cons (pe_ix ix_tup (pv 0) pe_int (fun _ _ => rfl)) (pa_cons (pe_ix ix_tup (pv 1) pe_int (fun _ _ => rfl)) (pa_cons (pv 2) pa_nil)))) (pg_tup rfl (pgs_cons (pg_name (i := 3) sc_stepped.nd rfl (Or.inl rfl)) (pgs_cons (pg_name (i := 4) sc_stepped.nd rfl (Or.inr rfl)) pgs_nil))))
  (pss_cons (ps_asg (pe_call G_stepped (hr.mono (by first | decide | omega)) (by rfl) D_stepped.m D_stepped.F.kp D_stepped.b .nil pass0 (pa_cons (pe_ix ix_tup (pv 0) pe_int (fun _ _ => rfl)) (pa_cons (pe_ix ix_tup (pv 1) pe_int (fun _ _ => rfl)) (pa_cons (pv 2) pa_nil)))) (pg_tup rfl (pgs_cons (pg_name (i := 5) sc_stepped.nd rfl (Or.inl rfl)) (pgs_cons (pg_name (i := 6) sc_stepped.nd rfl (Or.inl rfl)) pgs_nil))))
  (pss_one (ps_ret (pe_tup (pa_cons (pe_tup (pa_cons (pv 3) (pa_cons (pv 5) pa_nil))) (pa_cons (pe_op op_cat (pv 4) (pe_lc (own := [("guess", 8)]) (g := gName 8) rfl sc_stepped.nd (pi_list (pv 6)) (blkOk_by (own := [("guess", 8)]) (N := N_stepped) (sc := defScope s_stepped) (by decide +kernel)) (fun _ _ _ _ _ => pg_name (i := 8) sc_stepped.nd rfl (Or.inl rfl)) (fun _ _ _ _ _ => pts_one (pt_cmpR (notIn_seqK (K := K)) (pv 8) (pv 4) (by with_unfolding_all rfl))) (fun _ _ _ _ _ => (pv 8)))) pa_nil))))))))))), ?_⟩
    cases g with
    | leaf z ns =>
      obtain ⟨a, rfl, ha⟩ := hG
      have hz : z ≠ ("both" : Str) := (isG_good k _ hg hk3).2
      and_intros
      by_cases c1 : z = "none"
      · refine iteB (decide_eq_true (congrArg V.str c1)) ?_
        and_intros
        intro l1 n1
        and_intros
        intro p2 n2
        have q' : StepQ K H Q (s, []) := by rw [← show stepG (.leaf z ns) s p = (s, []) from if_pos c1]; exact q
        exact q' p2 l1 u _ (by ac_rfl) n1 (hS.same (by ac_rfl)) (by infer_instance) upd_same
      · refine iteB0 (decide_eq_false fun x => c1 (V.str.inj x)) ?_
        obtain ⟨m, rfl, m1, m3⟩ := hd_good hg c1
        and_intros
        by_cases c2 : z = "next"
        · refine iteB (decide_eq_true (congrArg V.str c2)) ?_
          and_intros
          intro D nD
          have q' : StepQ K H Q (s, (List.range m.toNat).map fun (k : Nat) => p + (k : Int) + 1) := by rw [← show stepG (.leaf z [m]) s p = (s, (List.range m.toNat).map fun (k : Nat) => p + (k : Int) + 1) from (if_neg c1).trans (if_pos c2)]; exact q
          refine lc_range (lo := 0) (n := m.toNat) (fun i H' => Same H H' ∧ H' D = some (.lst (((List.range i).map fun (k : Nat) => p + (k : Int) + 1).map V.int))) ⟨same_upd nD, upd_same⟩ (fun i H' hi h => ?_) (fun H' h => ?_)
          · and_intros
            refine ⟨_, h.2, by rw [List.length_map, List.length_map, List.length_range]; exact szl (by omega), same_mut h.1 nD, ?_⟩
            rw [upd_same, List.range_succ, List.map_append, List.map_append]
            have z : (p + (0 + (i : Int)) + 1) = p + (i : Int) + 1 := by omega
            simp only [z, List.map_cons, List.map_nil]
          · and_intros
            intro p2 n2
            exact q' p2 D u _ (h.1.trans (same_upd n2)) nD (hS.same (h.1.trans (same_upd n2))) (same_upd n2 _ _ h.2) upd_same
        · refine iteB0 (decide_eq_false fun x => c2 (V.str.inj x)) ?_
          and_intros
          cases s with
          | both _ _ => exact hf.elim
          | str l st t =>
            have c3 : z = "stride" := hf
            refine iteB (decide_eq_true (congrArg V.str c3)) ?_
            and_intros
            refine ⟨u, l, m, st, t, p, rfl, hS, ?_⟩
            rw [← show stepG (.leaf z [m]) (.str l st t) p = strStep m l st t p from (if_neg c1).trans (if_neg c2)]
            exact q
          | prs l kn =>
            have c3 : ¬ z = "stride" := hf
            refine iteB0 (decide_eq_false fun x => c3 (V.str.inj x)) ?_
            have c4 : z = "pairs" := by
              rcases good_leaf hg with ⟨e, _⟩ | ⟨_, _, _, e⟩
              · exact absurd e c1
              · rcases e with e | e | e
                · exact absurd e c2
                · exact absurd e c3
                · exact e
            and_intros
            refine iteB (decide_eq_true (congrArg V.str c4)) ?_
            and_intros
            refine ⟨u, l, m, kn, p, N, rfl, hS, m1, m3, ho, hN, ?_⟩
            rw [← show stepG (.leaf z [m]) (.prs l kn) p = (.prs (some p) (knStep m l kn p), lookK (knStep m l kn p) p) from (if_neg c1).trans (if_neg c2)]
            exact q
    | both a b =>
      cases k with
      | zero => simp [good] at hg
      | succ k =>
      have h' : (good k a && good k b) = true := hg
      rw [Bool.and_eq_true] at h'
      cases s with
      | str _ _ _ => exact hf.elim
      | prs _ _ => exact hf.elim
      | both s t =>
      obtain ⟨pa, x, y, rfl, hp, ha, hb⟩ := hG
      obtain ⟨pb, x', y', rfl, hp', ha', hb'⟩ := hS
      and_intros
      refine ⟨x, x', a, s, p, k, N, rfl, ha, ha', h'.1, by omega, by omega, hf.1, ho.1, hN, fun q1 l1 v1 H1 s1 n1 i1 e1 t1 => ?_⟩
      have hp1 := same_t s1 hp
      have hp1' := same_t s1 hp'
      refine ⟨q1, _, rfl, sqt t1, rfl, _, _, rfl, _, _, rfl, rfl, ?_⟩
      and_intros
      refine ⟨y, y', b, t, p, k, N, rfl, hb.same s1, hb'.same s1, h'.2, by omega, by omega, hf.2, ho.2, hN, fun q2 l2 v2 H2 s2 n2 i2 e2 t2 => ?_⟩
      refine ⟨q2, _, rfl, sqt t2, rfl, _, _, rfl, _, _, rfl, rfl, ?_⟩
      and_intros
      intro p3 n3
      and_intros
      refine ⟨⟨_, sql (same_upd n3 _ _ e2)⟩, fun L nL => ?_⟩
      have lm := stepG_len (p := p) h'.1 hf.1 ho.1
      have lt := stepG_len (p := p) h'.2 hf.2 ho.2
      have q' : StepQ K H Q (.both (stepG a s p).1 (stepG b t p).1, (stepG a s p).2 ++ (stepG b t p).2.filter fun e => decide (e ∉ (stepG a s p).2)) := q
      generalize (stepG a s p).2 = mine at e1 lm q'
      generalize (stepG b t p).2 = theirs at e2 lt q'
      have pw : 2 ^ k ≤ 4 := Nat.le_trans (Nat.pow_le_pow_right (by decide) (show k ≤ 2 by omega)) (by decide)
      have e1' : (upd H2 p3 (.tup [v1, v2])) l1 = some (.lst (mine.map V.int)) := same_upd n3 _ _ (s2 _ _ e1)
      have e2' : (upd H2 p3 (.tup [v1, v2])) l2 = some (.lst (theirs.map V.int)) := same_upd n3 _ _ e2
      have s3 : Same H (upd H2 p3 (.tup [v1, v2])) := (s1.trans s2).trans (same_upd n3)
      have t3 : (upd H2 p3 (.tup [v1, v2])) p3 = some (.tup [v1, v2]) := upd_same
      have i1' := (i1.same s2).same (same_upd (o := .tup [v1, v2]) n3)
      have i2' := i2.same (same_upd (o := .tup [v1, v2]) n3)
      generalize upd H2 p3 (.tup [v1, v2]) = H3 at e1' e2' s3 t3 i1' i2' nL ⊢
      refine lc_list (xs := theirs.map V.int) (fun i H' => Same H3 H' ∧ H' L = some (.lst (((theirs.take i).filter fun e => decide (e ∉ mine)).map V.int))) ⟨same_upd nL, upd_same⟩ (fun i H' _ h => sql (h.1 _ _ e2')) (fun i y H' hi h => ?_) (fun H' h => ?_)
      · obtain ⟨m, rfl, em, tk⟩ := at_ints hi
        and_intros
        refine ⟨l1, mine.map V.int, rfl, .inl (sql (h.1 _ _ e1')), rfl, flat_ints _, ?_⟩
        rw [inV_ints]
        by_cases c : m ∈ mine
        · rw [decide_eq_true c]
          refine ⟨_, rfl, iteB0 (b := !true) rfl ?_⟩
          refine ⟨h.1, ?_⟩
          rw [h.2, tk, filter_snoc, if_neg (by simp [c]), List.append_nil]
        · rw [decide_eq_false c]
          refine ⟨_, rfl, iteB (b := !false) rfl ?_⟩
          have z := List.length_filter_le (fun e => decide (e ∉ mine)) (theirs.take i)
          rw [List.length_take] at z
          refine ⟨_, rfl, _, h.2, by rw [List.length_map]; exact szl (by omega), same_mut h.1 nL, ?_⟩
          rw [upd_same, tk, filter_snoc, if_pos (by simp [c]), List.map_append]
          rfl
      · have tk : theirs.take (theirs.map V.int).length = theirs := by rw [List.length_map]; exact List.take_length
        rw [tk] at h
        have z := List.length_filter_le (fun e => decide (e ∉ mine)) theirs
        refine ⟨_, _, mine.map V.int, _, rfl, rfl, h.1 _ _ e1', h.2, by simp only [List.length_map]; exact sz (by omega), fun l4 n4 => ?_⟩
        and_intros
        intro p5 n5
        exact q' p5 l4 (.ref p3) _ ((s3.trans h.1).trans ((same_upd n4).trans (same_upd n5))) ((s3.trans h.1).free n4)
          ⟨p3, v1, v2, rfl, sqt (same_upd n5 _ _ (same_upd n4 _ _ (h.1 _ _ t3))), i1'.same (h.1.trans ((same_upd n4).trans (same_upd n5))), i2'.same (h.1.trans ((same_upd n4).trans (same_upd n5)))⟩
          (by rw [upd_ne (ne_of_none (upd_same (H := H')) n5), upd_same, List.map_append]) upd_same
    | _ => simp [good] at hg
end
end St

namespace St
open PySem PySem.Spec PyProof.Rows L2
theorem fit_first : ∀ {k : Nat} {g : G}, good k g = true → Fit g (first0 g)
  | _, .nil, h => by simp [good] at h
  | _, .b1 _, h => by simp [good] at h
  | _, .b3 _ _ _, h => by simp [good] at h
  | 0, .both _ _, h => by simp [good] at h
  | k + 1, .both a b, h => by
    have h' : (good k a && good k b) = true := h
    rw [Bool.and_eq_true] at h'
    exact ⟨fit_first h'.1, fit_first h'.2⟩
  | _, .leaf w ns, _ => by
    by_cases c : w = "stride"
    · rw [show first0 (.leaf w ns) = .str none 0 0 from if_pos c]
      exact c
    · rw [show first0 (.leaf w ns) = .prs none [] from if_neg c]
      exact c
theorem ok_first : ∀ (g : G), okS 0 (first0 g)
  | .nil => ⟨Nat.le_refl _, List.Pairwise.nil, fun _ h => nomatch h⟩
  | .b1 _ => ⟨Nat.le_refl _, List.Pairwise.nil, fun _ h => nomatch h⟩
  | .b3 _ _ _ => ⟨Nat.le_refl _, List.Pairwise.nil, fun _ h => nomatch h⟩
  | .both a b => ⟨ok_first a, ok_first b⟩
  | .leaf w ns => by
    by_cases c : w = "stride"
    · rw [show first0 (.leaf w ns) = .str none 0 0 from if_pos c]
      exact True.intro
    · rw [show first0 (.leaf w ns) = .prs none [] from if_neg c]
      exact ⟨Nat.le_refl _, List.Pairwise.nil, fun _ h => nomatch h⟩
theorem okS_le {N M : Nat} (h : N ≤ M) : ∀ {s : Sg}, okS N s → okS M s
  | .str _ _ _, _ => True.intro
  | .prs _ _, ⟨a, b, c⟩ => ⟨Nat.le_trans a h, b, c⟩
  | .both _ _, ⟨a, b⟩ => ⟨okS_le h a, okS_le h b⟩
theorem stepG_keeps : ∀ {k : Nat} {g : G} {s : Sg} {p : Int} {N : Nat}, good k g = true → Fit g s → okS N s → Fit g (stepG g s p).1 ∧ okS (N + 1) (stepG g s p).1
  | _, .nil, _, _, _, h, _, _ => by simp [good] at h
  | _, .b1 _, _, _, _, h, _, _ => by simp [good] at h
  | _, .b3 _ _ _, _, _, _, h, _, _ => by simp [good] at h
  | 0, .both _ _, _, _, _, h, _, _ => by simp [good] at h
  | k + 1, .both a b, .both s t, p, N, h, f, o => by
    have h' : (good k a && good k b) = true := h
    rw [Bool.and_eq_true] at h'
    have ha := stepG_keeps (p := p) h'.1 f.1 o.1
    have hb := stepG_keeps (p := p) h'.2 f.2 o.2
    exact ⟨⟨ha.1, hb.1⟩, ⟨ha.2, hb.2⟩⟩
  | _, .both _ _, .str _ _ _, _, _, _, f, _ => f.elim
  | _, .both _ _, .prs _ _, _, _, _, f, _ => f.elim
  | k, .leaf z ns, s, p, N, h, f, o => by
    by_cases c1 : z = "none"
    · have e : stepG (.leaf z ns) s p = (s, []) := if_pos c1
      rw [e]
      exact ⟨f, okS_le (Nat.le_succ _) o⟩
    · obtain ⟨n, rfl, h1, h3⟩ := hd_good h c1
      by_cases c2 : z = "next"
      · have e : stepG (.leaf z [n]) s p = (s, (List.range n.toNat).map fun (k : Nat) => p + (k : Int) + 1) := (if_neg c1).trans (if_pos c2)
        rw [e]
        exact ⟨f, okS_le (Nat.le_succ _) o⟩
      · cases s with
        | both _ _ => exact f.elim
        | str l st t =>
          have e : stepG (.leaf z [n]) (.str l st t) p = strStep n l st t p := (if_neg c1).trans (if_neg c2)
          rw [e]
          unfold strStep
          cases l with
          | none => exact ⟨f, True.intro⟩
          | some x => exact ⟨f, True.intro⟩
        | prs l kn =>
          have e : stepG (.leaf z [n]) (.prs l kn) p = (.prs (some p) (knStep n l kn p), lookK (knStep n l kn p) p) := (if_neg c1).trans (if_neg c2)
          rw [e]
          exact ⟨f, knStep_ok h3 o⟩
def stG (g : G) (ps : List Int) : Sg := ps.foldl (fun s p => (stepG g s p).1) (first0 g)
/-- what is guessed behind the last -/
def outG (g : G) : List Int → List (List Int) → Sg → List (List Int)
  | [], acc, _ => acc
  | p :: r, acc, s => outG g r (acc ++ [(stepG g s p).2]) (stepG g s p).1
/-- what is guessed behind each of them -/
def allG (g : G) (ps : List Int) : Nat → List (List Int)
  | 0 => []
  | i + 1 => allG g ps i ++ [(stepG g (stG g (ps.take i)) (ps.getD i 0)).2]
theorem stG_snoc (g : G) (ps : List Int) (p : Int) : stG g (ps ++ [p]) = (stepG g (stG g ps) p).1 := by
  unfold stG
  rw [List.foldl_append]
  rfl
theorem stG_keeps {k : Nat} {g : G} (h : good k g = true) (ps : List Int) : ∀ i : Nat, i ≤ ps.length → Fit g (stG g (ps.take i)) ∧ okS i (stG g (ps.take i))
  | 0, _ => ⟨by rw [List.take_zero]; exact fit_first h, by rw [List.take_zero]; exact ok_first g⟩
  | i + 1, hi => by
    have z := stG_keeps h ps i (by omega)
    have e : ps.take (i + 1) = ps.take i ++ [ps[i]] := by rw [List.take_add_one, List.getElem?_eq_getElem (by omega)]; rfl
    rw [e, stG_snoc]
    exact stepG_keeps h z.1 z.2
theorem allG_len (g : G) (ps : List Int) : ∀ i, (allG g ps i).length = i
  | 0 => rfl
  | i + 1 => by rw [allG, List.length_append, allG_len g ps i]; rfl
theorem allG_at (g : G) (ps : List Int) {i : Nat} : ∀ n, i < n → (allG g ps n)[i]? = some (stepG g (stG g (ps.take i)) (ps.getD i 0)).2
  | 0, h => absurd h (Nat.not_lt_zero _)
  | n + 1, h => by
    unfold allG
    by_cases c : i < n
    · rw [List.getElem?_append_left (by rw [allG_len]; exact c)]
      exact allG_at g ps n c
    · have e : i = n := by omega
      subst e
      rw [List.getElem?_append_right (by rw [allG_len]; exact Nat.le_refl _), allG_len, Nat.sub_self]
      rfl
end St

namespace St
open PySem PySem.Spec PyProof.Rows L2
abbrev s_laid : Stmt := topS 25
abbrev N_laid : List Str := ["house", "shelf", "place", "waits", "events"]
abbrev p_laid : List Str := ["house", "shelf", "place", "waits", "events"]
theorem sc_laid : FnScope N_laid p_laid (defScope s_laid) := ⟨rfl, rfl, rfl, by decide +kernel, rfl, by decide +kernel, by decide +kernel⟩
abbrev s_come : Stmt := topS 26
abbrev N_come : List Str := ["house", "shelf", "way", "events", "left", "place", "turns"]
abbrev p_come : List Str := ["house", "shelf", "way", "events"]
theorem sc_come : FnScope N_come p_come (defScope s_come) := ⟨rfl, rfl, rfl, by decide +kernel, rfl, by decide +kernel, by decide +kernel⟩
/-! ### the house -/
structure HouseC (K : PySem.W.Frag) (C : Addr) : Prop where
  cl : Cls K C
  places : NoAttr K C "places"
  room : NoAttr K C "room"
  late : NoAttr K C "late"
  most : NoAttr K C "most"
def hfl (pl rm lt ms : Int) : List (Str × V) := [("places", .int pl), ("room", .int rm), ("late", .int lt), ("most", .int ms)]
theorem hfl_places (pl rm lt ms : Int) : (hfl pl rm lt ms).lookup ("places" : Str) = some (.int pl) := by rfl
theorem hfl_room (pl rm lt ms : Int) : (hfl pl rm lt ms).lookup ("room" : Str) = some (.int rm) := by rfl
theorem hfl_late (pl rm lt ms : Int) : (hfl pl rm lt ms).lookup ("late" : Str) = some (.int lt) := by rfl
theorem hfl_most (pl rm lt ms : Int) : (hfl pl rm lt ms).lookup ("most" : Str) = some (.int ms) := by rfl
def IsH (C : Addr) (H : Hp) (h : Addr) (pl rm lt ms : Int) : Prop := ∃ dx, H h = some (.ins C dx (hfl pl rm lt ms))
theorem IsH.x {C : Addr} {H H' : Hp} {h r : Addr} {pl rm lt ms : Int} (e : IsH C H h pl rm lt ms) (s : SameX r H H') (l : LstAt H r) : IsH C H' h pl rm lt ms := by
  obtain ⟨dx, e⟩ := e
  obtain ⟨ys, l⟩ := l
  exact ⟨dx, s _ _ (fun z => by subst z; rw [l] at e; cases e) e⟩
theorem IsH.same {C : Addr} {H H' : Hp} {h : Addr} {pl rm lt ms : Int} (e : IsH C H h pl rm lt ms) (s : Same H H') : IsH C H' h pl rm lt ms := by
  obtain ⟨dx, e⟩ := e
  exact ⟨dx, s _ _ e⟩
/-! ### shelves, ways, events -/
abbrev Shelf := List (Int × Bool)
abbrev Way := List (Int × Int)
abbrev Evs := List (Str × Int)
def PrS (K : PySem.W.Frag) (H : Hp) (as : List Addr) (sh : Shelf) : Prop := Paired (fun (p : Addr) (e : Int × Bool) => SqT K H p [.int e.1, .bl e.2]) as sh
def PrW (K : PySem.W.Frag) (H : Hp) (as : List Addr) (wy : Way) : Prop := Paired (fun (p : Addr) (e : Int × Int) => SqT K H p [.int e.1, .int e.2]) as wy
def PrE (K : PySem.W.Frag) (H : Hp) (as : List Addr) (es : Evs) : Prop := Paired (fun (p : Addr) (e : Str × Int) => SqT K H p [.str e.1, .int e.2]) as es
def IsSh (K : PySem.W.Frag) (H : Hp) (a : Addr) (sh : Shelf) : Prop := ∃ as : List Addr, SqT K H a (as.map V.ref) ∧ PrS K H as sh
def IsWT (K : PySem.W.Frag) (H : Hp) (a : Addr) (wy : Way) : Prop := ∃ as : List Addr, SqT K H a (as.map V.ref) ∧ PrW K H as wy
def IsWL (K : PySem.W.Frag) (H : Hp) (a : Addr) (wy : Way) : Prop := ∃ as : List Addr, H a = some (.lst (as.map V.ref)) ∧ PrW K H as wy
def IsEv (K : PySem.W.Frag) (H : Hp) (a : Addr) (es : Evs) : Prop := ∃ as : List Addr, H a = some (.lst (as.map V.ref)) ∧ PrE K H as es
theorem IsEv.at_ {K : PySem.W.Frag} {H : Hp} {a : Addr} {es : Evs} (h : IsEv K H a es) : LstAt H a := by
  obtain ⟨as, h, _⟩ := h
  exact ⟨_, h⟩
theorem IsWL.at_ {K : PySem.W.Frag} {H : Hp} {a : Addr} {wy : Way} (h : IsWL K H a wy) : LstAt H a := by
  obtain ⟨as, h, _⟩ := h
  exact ⟨_, h⟩
theorem PrS.imm {K : PySem.W.Frag} {H H' : Hp} {as : List Addr} {sh : Shelf} (h : PrS K H as sh) (e : Imm H H') : PrS K H' as sh := Paired.mapP h fun _ _ z => e.t z
theorem PrW.imm {K : PySem.W.Frag} {H H' : Hp} {as : List Addr} {sh : Way} (h : PrW K H as sh) (e : Imm H H') : PrW K H' as sh := Paired.mapP h fun _ _ z => e.t z
theorem PrE.imm {K : PySem.W.Frag} {H H' : Hp} {as : List Addr} {sh : Evs} (h : PrE K H as sh) (e : Imm H H') : PrE K H' as sh := Paired.mapP h fun _ _ z => e.t z
theorem IsSh.imm {K : PySem.W.Frag} {H H' : Hp} {a : Addr} {sh : Shelf} (h : IsSh K H a sh) (e : Imm H H') : IsSh K H' a sh := by
  obtain ⟨as, h, p⟩ := h
  exact ⟨as, e.t h, p.imm e⟩
theorem IsWT.imm {K : PySem.W.Frag} {H H' : Hp} {a : Addr} {sh : Way} (h : IsWT K H a sh) (e : Imm H H') : IsWT K H' a sh := by
  obtain ⟨as, h, p⟩ := h
  exact ⟨as, e.t h, p.imm e⟩
theorem IsWL.x {K : PySem.W.Frag} {H H' : Hp} {a r : Addr} {sh : Way} (h : IsWL K H a sh) (n : a ≠ r) (e : SameX r H H') (l : LstAt H r) : IsWL K H' a sh := by
  obtain ⟨as, h, p⟩ := h
  exact ⟨as, e _ _ n h, p.imm (Imm.sameX e l)⟩
theorem IsWL.same {K : PySem.W.Frag} {H H' : Hp} {a : Addr} {sh : Way} (h : IsWL K H a sh) (e : Same H H') : IsWL K H' a sh := by
  obtain ⟨as, h, p⟩ := h
  exact ⟨as, e _ _ h, p.imm (Imm.same e)⟩
theorem IsEv.same {K : PySem.W.Frag} {H H' : Hp} {a : Addr} {es : Evs} (h : IsEv K H a es) (e : Same H H') : IsEv K H' a es := by
  obtain ⟨as, h, p⟩ := h
  exact ⟨as, e _ _ h, p.imm (Imm.same e)⟩
theorem IsEv.len {K : PySem.W.Frag} {H : Hp} {as : List Addr} {es : Evs} (p : PrE K H as es) : as.length = es.length := Paired.length p
/-- one more event -/
theorem IsEv.put {K : PySem.W.Frag} {H : Hp} {a p : Addr} {as : List Addr} {es : Evs} {x : Str} {i : Int} (h : H a = some (.lst (as.map V.ref))) (pe : PrE K H as es) (hp : SqT K H p [.str x, .int i]) : IsEv K (upd H a (.lst (as.map V.ref ++ [.ref p]))) a (es ++ [(x, i)]) :=
  ⟨as ++ [p], by rw [upd_same, List.map_append]; rfl, Paired.snoc (pe.imm (Imm.upd ⟨_, h⟩)) ((Imm.upd ⟨_, h⟩).t hp)⟩
theorem IsWL.put {K : PySem.W.Frag} {H : Hp} {a p : Addr} {as : List Addr} {es : Way} {x i : Int} (h : H a = some (.lst (as.map V.ref))) (pe : PrW K H as es) (hp : SqT K H p [.int x, .int i]) : IsWL K (upd H a (.lst (as.map V.ref ++ [.ref p]))) a (es ++ [(x, i)]) :=
  ⟨as ++ [p], by rw [upd_same, List.map_append]; rfl, Paired.snoc (pe.imm (Imm.upd ⟨_, h⟩)) ((Imm.upd ⟨_, h⟩).t hp)⟩
theorem pr_at {β : Type} {F : Addr → β → Prop} : ∀ {as : List Addr} {bs : List β} {i : Nat} {x : V}, Paired F as bs → (as.map V.ref)[i]? = some x → ∃ p b, x = .ref p ∧ F p b ∧ bs.take (i + 1) = bs.take i ++ [b] ∧ bs[i]? = some b
  | _, _, 0, _, .cons h _, e => ⟨_, _, (Option.some.inj e).symm, h, rfl, rfl⟩
  | _, _, i + 1, _, .cons _ t, e => by
    obtain ⟨p, b, h1, h2, h3, h4⟩ := pr_at (i := i) t e
    exact ⟨p, b, h1, h2, by rw [List.take_succ_cons, h3, List.take_succ_cons]; rfl, h4⟩
  | _, _, 0, _, .nil, e => nomatch e
  | _, _, _ + 1, _, .nil, e => nomatch e
/-! ### what they do -/
def laidP (room : Int) (sh : Shelf) (p : Int) (w : Bool) : Shelf × Evs :=
  if ((sh.length : Nat) : Int) = room then (match sh with
    | [] => ([(p, w)], [])
    | e :: r => (r ++ [(p, w)], [((if e.2 then "waste" else "leave" : Str), e.1)]))
  else (sh ++ [(p, w)], [])
def comeS (room : Int) (s : Shelf × Way × Evs) (e : Int × Int) : Shelf × Way × Evs :=
  if e.2 = 0 then ((laidP room s.1 e.1 true).1, s.2.1, s.2.2 ++ (laidP room s.1 e.1 true).2 ++ [(("come" : Str), e.1)]) else (s.1, s.2.1 ++ [(e.1, e.2 - 1)], s.2.2)
def comeP (room : Int) (sh : Shelf) (wy : Way) : Shelf × Way × Evs := wy.foldl (comeS room) (sh, [], [])
def askedP (room : Int) (sh : Shelf) (wy : Way) (p : Int) : Shelf × Way × Evs :=
  match sh.find? (fun e => decide (e.1 = p)) with
  | some e => (sh.filter (fun o => decide (o ≠ e)) ++ [(p, false)], wy, [((if e.2 then "first" else "hit" : Str), p)])
  | none => ((laidP room sh p false).1, wy.filter (fun e => decide (e.1 ≠ p)), (laidP room sh p false).2 ++ [((if (wy.filter fun e => decide (e.1 ≠ p)).length = wy.length then "miss" else "late" : Str), p)])
def startS (pl lt ms : Int) (sh : Shelf) (s : Way × Evs) (g : Int) : Way × Evs :=
  if (0 ≤ g ∧ g < pl) ∧ g ∉ sh.map (·.1) ++ s.1.map (·.1) ∧ ((s.1.length : Nat) : Int) < ms then (s.1 ++ [(g, lt)], s.2 ++ [(("start" : Str), g)]) else s
def startedP (pl lt ms : Int) (sh : Shelf) (wy : Way) (gs : List Int) : Way × Evs := gs.foldl (startS pl lt ms sh) (wy, [])
theorem laidP_len {room : Int} {sh : Shelf} {p : Int} {w : Bool} : (laidP room sh p w).1.length ≤ sh.length + 1 ∧ (laidP room sh p w).2.length ≤ 1 := by
  unfold laidP
  split
  · cases sh with
    | nil => exact ⟨Nat.le_refl _, Nat.zero_le _⟩
    | cons e r => exact ⟨by show (r ++ _).length ≤ _; rw [List.length_append]; exact Nat.le_succ _, Nat.le_refl _⟩
  · exact ⟨by show (sh ++ _).length ≤ _; rw [List.length_append]; exact Nat.le_refl _, Nat.zero_le _⟩
theorem laidP_room {room : Int} {sh : Shelf} {p : Int} {w : Bool} (h1 : 1 ≤ room) (h : ((sh.length : Nat) : Int) ≤ room) : (((laidP room sh p w).1.length : Nat) : Int) ≤ room := by
  unfold laidP
  split
  · cases sh with
    | nil => exact h1
    | cons e r =>
      show (((r ++ [(p, w)]).length : Nat) : Int) ≤ room
      rw [List.length_append]
      exact h
  · show (((sh ++ [(p, w)]).length : Nat) : Int) ≤ room
    rw [List.length_append]
    show (((sh.length + 1 : Nat) : Nat) : Int) ≤ room
    omega
theorem catA_ok {K : PySem.W.Frag} {H : Hp} {a b : Addr} {xs ys : List V} {Q : VK} (ha : SqT K H a xs) (hb : SqT K H b ys) (hz : xs.length + ys.length ≤ sizeLine) (q : ∀ p H', Same H H' → SqT K H' p (xs ++ ys) → Q (.ref p) H') : rCatA K (.ref a) (.ref b) H Q :=
  ⟨a, b, xs, ys, rfl, rfl, ha, hb, hz, fun e => q b H (Same.refl _) (by rw [e]; exact hb), fun _ e => q a H (Same.refl _) (by rw [e, List.append_nil]; exact ha), fun _ _ p np => q p _ (same_upd np) (sqt upd_same)⟩
section
variable {P : Program} {w : World} {K : PySem.W.Frag} {mg : Str → Option Value} {base : Heap} {f f1 C : Addr} {fd fd1 : FuncData}
def spLaid (K : PySem.W.Frag) (C : Addr) : Sp := fun vs H Q _ => ∃ (h a ev : Addr) (pl rm lt ms p : Int) (wt : Bool) (sh : Shelf) (es : Evs), vs = [.ref h, .ref a, .int p, .bl wt, .ref ev] ∧ IsH C H h pl rm lt ms ∧ IsSh K H a sh ∧ IsEv K H ev es ∧ 1 ≤ rm ∧ sh.length ≤ 1000 ∧ es.length ≤ 100000 ∧
  ∀ (a' : Addr) H', SameX ev H H' → IsSh K H' a' (laidP rm sh p wt).1 → IsEv K H' ev (es ++ (laidP rm sh p wt).2) → Q (.ref a') H'
theorem ok_laid (T : Nms mg) (HC : HouseC K C) (F : Fun K "laid" "laid" s_laid f fd) : FnOk P w K mg base CX0 1 f fd p_laid (spLaid K C) := by
  refine F.ok sc_laid (fun vs H Q E h => ?_) (fun cdv A outer s H vs Q E hr h => ?_)
  · obtain ⟨h, a, ev, pl, rm, lt, ms, p, wt, sh, es, rfl, _⟩ := h
    rfl
  obtain ⟨h, a, ev, pl, rm, lt, ms, p, wt, sh, es, rfl, hh, ⟨as, hs, pr⟩, ⟨bs, he, pe⟩, h1, hl, hes, q⟩ := h
  refine ⟨_, (pss_cons (ps_if (pt_cmpR op_eq (pe_callB call_len_seq (by rfl) T.n_len (by decide +kernel) (pa_cons (pv 1) pa_nil)) (pe_fld (pv 0) rfl) (nomark _))
    (pss_cons (ps_expr (pe_bm PySem.F.plainAttrs_list PySem.F.slot_list_append PySem.F.type_list_append mt_append (pv 4) (pa_cons (pe_tup (pa_cons (pe_ifExp (pt_val (pe_ix ix_tup (pe_ix ix_tup (pv 1) pe_int (fun _ _ => rfl)) pe_int (fun _ _ => rfl))) pe_str pe_str) (pa_cons (pe_ix ix_tup (pe_ix ix_tup (pv 1) pe_int (fun _ _ => rfl)) pe_int (fun _ _ => rfl)) pa_nil))) pa_nil)))
    (pss_one (ps_set (i := 1) sc_laid.nd rfl (Or.inl rfl) (pe_slice sl_tupA (pv 1) (po_some pe_int) po_none))))
    (pss_nil))
  (pss_one (ps_ret (pe_op op_catA (pv 1) (pe_tup (pa_cons (pe_tup (pa_cons (pv 2) (pa_cons (pv 3) pa_nil))) pa_nil)))))), ?_⟩
  have la : as.length = sh.length := Paired.length pr
  obtain ⟨dx, hh'⟩ := id hh
  and_intros
  refine ⟨h, C, dx, _, _, rfl, hh', HC.cl, HC.room, hfl_room _ _ _ _, ?_⟩
  have e0 : (((as.map V.ref).length : Nat) : Int) = ((sh.length : Nat) : Int) := by rw [List.length_map, la]
  and_intros
  by_cases c : ((sh.length : Nat) : Int) = rm
  · refine iteB (decide_eq_true (by rw [e0, c])) ?_
    cases sh with
    | nil => exact absurd c (by show ¬ (0 : Int) = rm; omega)
    | cons e r =>
    cases pr with
    | @cons a0 _ as0 _ p0 pr =>
    have hlaid : laidP rm (e :: r) p wt = (r ++ [(p, wt)], [((if e.2 then "waste" else "leave" : Str), e.1)]) := if_pos c
    rw [hlaid] at q
    obtain ⟨e1, e2⟩ := e
    and_intros
    refine ⟨.inl ⟨rfl, _, sql he⟩, ?_⟩
    and_intros
    have lb : bs.length = es.length := Paired.length pe
    have fin : ∀ (x : Str) (p1 : Addr), H p1 = none → ∀ H1, H1 = upd (upd H p1 (.tup [.str x, .int e1])) ev (.lst (bs.map V.ref ++ [.ref p1])) → SameX ev H H1 ∧ IsEv K H1 ev (es ++ [(x, e1)]) ∧ SqT K H1 a (V.ref a0 :: as0.map V.ref) ∧ PrS K H1 as0 r := fun x p1 n1 H1 e => by
      subst e
      have he1 := same_upd (o := .tup [.str x, .int e1]) n1 _ _ he
      have i1 : Imm H (upd H p1 (.tup [.str x, .int e1])) := Imm.same (same_upd n1)
      have i2 := i1.trans (Imm.upd (o := .lst (bs.map V.ref ++ [.ref p1])) ⟨_, he1⟩)
      exact ⟨(SameX.of (same_upd n1)).trans SameX.upd, IsEv.put he1 (pe.imm i1) (sqt upd_same), i2.t hs, PrS.imm pr i2⟩
    have sl : ∀ n : Nat, n ≤ 1000 → ¬ (HT.sIx (n + 1) 0 (some 1) = 0 ∧ HT.sIx (n + 1) (n + 1) none = n + 1) := fun n _ z => by
      have := z.1
      rw [show (1 : Int) = ((1 : Nat) : Int) from rfl, HT.sIx_nat] at this
      omega
    have la0 : as0.length = r.length := Nat.succ.inj la
    have lr : r.length + 1 ≤ 1000 := hl
    cases e2 with
    | true =>
      refine iteB rfl ?_
      and_intros
      intro p1 n1
      and_intros
      refine ⟨_, _, _, rfl, rfl, same_upd n1 _ _ he, by rw [List.length_map, lb]; exact szl (by omega), ?_⟩
      obtain ⟨s1, v1, t1, r1⟩ := fin "waste" p1 n1 _ rfl
      generalize upd (upd H p1 (.tup [.str "waste", .int e1])) ev (.lst (bs.map V.ref ++ [.ref p1])) = H1 at s1 v1 t1 r1 ⊢
      and_intros
      refine ⟨_, _, rfl, t1, fun z => absurd z (by show ¬ (HT.sIx ((as0.map V.ref).length + 1) 0 (some 1) = 0 ∧ HT.sIx ((as0.map V.ref).length + 1) ((as0.map V.ref).length + 1) none = (as0.map V.ref).length + 1); exact sl _ (by rw [List.length_map]; omega)), fun _ p2 n2 => ?_⟩
      rw [cut_from (by decide)]
      have t2 : SqT K (upd H1 p2 (.tup (as0.map V.ref))) p2 (as0.map V.ref) := sqt upd_same
      have s2 : Same H1 (upd H1 p2 (.tup (as0.map V.ref))) := same_upd n2
      rw [show List.drop (Int.toNat 1) (V.ref a0 :: as0.map V.ref) = as0.map V.ref from rfl]
      generalize upd H1 p2 (.tup (as0.map V.ref)) = H2 at t2 s2 ⊢
      and_intros
      intro p3 n3
      and_intros
      intro p4 n4
      refine catA_ok (same_t (same_upd n4) (same_t (same_upd n3) t2)) (sqt upd_same) (by rw [List.length_map]; exact sz (by show as0.length + 1 ≤ _; omega)) fun p5 H5 s5 h5 => ?_
      have s : Same H1 H5 := (s2.trans ((same_upd n3).trans (same_upd n4))).trans s5
      exact q p5 H5 (s1.trans (SameX.of s)) ⟨as0 ++ [p3], by rw [List.map_append]; exact h5, Paired.snoc (r1.imm (Imm.same s)) (sqt (s5 _ _ (same_upd n4 _ _ upd_same)))⟩ (v1.same s)
    | false =>
      refine iteB0 rfl ?_
      and_intros
      intro p1 n1
      and_intros
      refine ⟨_, _, _, rfl, rfl, same_upd n1 _ _ he, by rw [List.length_map, lb]; exact szl (by omega), ?_⟩
      obtain ⟨s1, v1, t1, r1⟩ := fin "leave" p1 n1 _ rfl
      generalize upd (upd H p1 (.tup [.str "leave", .int e1])) ev (.lst (bs.map V.ref ++ [.ref p1])) = H1 at s1 v1 t1 r1 ⊢
      and_intros
      refine ⟨_, _, rfl, t1, fun z => absurd z (by show ¬ (HT.sIx ((as0.map V.ref).length + 1) 0 (some 1) = 0 ∧ HT.sIx ((as0.map V.ref).length + 1) ((as0.map V.ref).length + 1) none = (as0.map V.ref).length + 1); exact sl _ (by rw [List.length_map]; omega)), fun _ p2 n2 => ?_⟩
      rw [cut_from (by decide)]
      have t2 : SqT K (upd H1 p2 (.tup (as0.map V.ref))) p2 (as0.map V.ref) := sqt upd_same
      have s2 : Same H1 (upd H1 p2 (.tup (as0.map V.ref))) := same_upd n2
      rw [show List.drop (Int.toNat 1) (V.ref a0 :: as0.map V.ref) = as0.map V.ref from rfl]
      generalize upd H1 p2 (.tup (as0.map V.ref)) = H2 at t2 s2 ⊢
      and_intros
      intro p3 n3
      and_intros
      intro p4 n4
      refine catA_ok (same_t (same_upd n4) (same_t (same_upd n3) t2)) (sqt upd_same) (by rw [List.length_map]; exact sz (by show as0.length + 1 ≤ _; omega)) fun p5 H5 s5 h5 => ?_
      have s : Same H1 H5 := (s2.trans ((same_upd n3).trans (same_upd n4))).trans s5
      exact q p5 H5 (s1.trans (SameX.of s)) ⟨as0 ++ [p3], by rw [List.map_append]; exact h5, Paired.snoc (r1.imm (Imm.same s)) (sqt (s5 _ _ (same_upd n4 _ _ upd_same)))⟩ (v1.same s)
  · refine iteB0 (decide_eq_false fun z => c (by rw [← e0]; exact V.int.inj z)) ?_
    have hlaid : laidP rm sh p wt = (sh ++ [(p, wt)], []) := if_neg c
    rw [hlaid] at q
    and_intros
    intro p1 n1
    and_intros
    intro p2 n2
    refine catA_ok (same_t (same_upd n2) (same_t (same_upd n1) hs)) (sqt upd_same) (by rw [List.length_map]; exact sz (by show as.length + 1 ≤ _; omega)) fun p3 H3 s3 h3 => ?_
    have s : Same H H3 := ((same_upd n1).trans (same_upd n2)).trans s3
    refine q p3 H3 (SameX.of s) ⟨as ++ [p1], by rw [List.map_append]; exact h3, Paired.snoc (pr.imm (Imm.same s)) (sqt (s3 _ _ (same_upd n2 _ _ upd_same)))⟩ ?_
    rw [List.append_nil]
    exact ⟨bs, s _ _ he, pe.imm (Imm.same s)⟩
def spCome (K : PySem.W.Frag) (C : Addr) : Sp := fun vs H Q _ => ∃ (h a b ev : Addr) (pl rm lt ms : Int) (sh : Shelf) (wy : Way), vs = [.ref h, .ref a, .ref b, .ref ev] ∧ IsH C H h pl rm lt ms ∧ IsSh K H a sh ∧ IsWT K H b wy ∧ IsEv K H ev [] ∧ 1 ≤ rm ∧ sh.length ≤ 100 ∧ wy.length ≤ 100 ∧
  ∀ (q a' b' : Addr) H', SameX ev H H' → H b' = none → b' ≠ ev → SqT K H' q [.ref a', .ref b'] → IsSh K H' a' (comeP rm sh wy).1 → IsWL K H' b' (comeP rm sh wy).2.1 → IsEv K H' ev (comeP rm sh wy).2.2 → Q (.ref q) H'
theorem comeP_len (room : Int) (sh : Shelf) : ∀ (wy : Way) (i : Nat), ((wy.take i).foldl (comeS room) (sh, [], [])).1.length ≤ sh.length + i ∧ ((wy.take i).foldl (comeS room) (sh, [], [])).2.1.length ≤ i ∧ ((wy.take i).foldl (comeS room) (sh, [], [])).2.2.length ≤ 2 * i
  | wy, 0 => by rw [List.take_zero]; exact ⟨Nat.le_refl _, Nat.le_refl _, Nat.le_refl _⟩
  | wy, i + 1 => by
    have ih := comeP_len room sh wy i
    rw [List.take_add_one, List.foldl_append]
    generalize (wy.take i).foldl (comeS room) (sh, [], []) = s at ih
    cases e : wy[i]? with
    | none => exact ⟨Nat.le_succ_of_le ih.1, Nat.le_succ_of_le ih.2.1, Nat.le_trans ih.2.2 (by omega)⟩
    | some x =>
      show (comeS room s x).1.length ≤ _ ∧ (comeS room s x).2.1.length ≤ _ ∧ (comeS room s x).2.2.length ≤ _
      have z := laidP_len (room := room) (sh := s.1) (p := x.1) (w := true)
      unfold comeS
      split
      · refine ⟨by show (laidP room s.1 x.1 true).1.length ≤ _; omega, Nat.le_succ_of_le ih.2.1, ?_⟩
        show (s.2.2 ++ (laidP room s.1 x.1 true).2 ++ [_]).length ≤ _
        rw [List.length_append, List.length_append]
        show _ + _ + 1 ≤ _
        omega
      · refine ⟨Nat.le_succ_of_le ih.1, ?_, Nat.le_trans ih.2.2 (by omega)⟩
        show (s.2.1 ++ [_]).length ≤ _
        rw [List.length_append]
        exact Nat.succ_le_succ ih.2.1
theorem ok_come (T : Nms mg) (HC : HouseC K C) (D_laid : Df K mg "laid" s_laid p_laid f1 fd1) (F : Fun K "come" "come" s_come f fd) : FnOk P w K mg base CX0 2 f fd p_come (spCome K C) := by
  have G_laid : FnOk P w K mg base CX0 1 f1 fd1 p_laid (spLaid K C) := ok_laid T HC D_laid.F
  refine F.ok sc_come (fun vs H Q E h => ?_) (fun cdv A outer s H vs Q E hr h => ?_)
  · obtain ⟨h, a, b, ev, pl, rm, lt, ms, sh, wy, rfl, _⟩ := h
    rfl
  obtain ⟨h, a, b, ev, pl, rm, lt, ms, sh, wy, rfl, hh, hs, ⟨bs, hb, pb⟩, he, h1, hls, hlw, q⟩ := h
  refine ⟨_, (pss_cons (ps_set (i := 4) sc_come.nd rfl (Or.inl rfl) (pe_lst pa_nil))
  (pss_cons (ps_for PassesOwn.never rfl (pi_tup (pv 2)) (pg_tup rfl (pgs_cons (pg_name (i := 5) sc_come.nd rfl (Or.inl rfl)) (pgs_cons (pg_name (i := 6) sc_come.nd rfl (Or.inl rfl)) pgs_nil)))
    (pss_one (ps_if (pt_cmpR op_eq (pv 6) pe_int (nomark _))
      (pss_cons (ps_set (i := 1) sc_come.nd rfl (Or.inl rfl) (pe_call G_laid (hr.mono (by first | decide | omega)) (by rfl) D_laid.m D_laid.F.kp D_laid.b .nil pass0 (pa_cons (pv 0) (pa_cons (pv 1) (pa_cons (pv 5) (pa_cons pe_bl (pa_cons (pv 3) pa_nil)))))))
      (pss_one (ps_expr (pe_bm PySem.F.plainAttrs_list PySem.F.slot_list_append PySem.F.type_list_append mt_append (pv 3) (pa_cons (pe_tup (pa_cons pe_str (pa_cons (pv 5) pa_nil))) pa_nil)))))
      (pss_one (ps_expr (pe_bm PySem.F.plainAttrs_list PySem.F.slot_list_append PySem.F.type_list_append mt_append (pv 4) (pa_cons (pe_tup (pa_cons (pv 5) (pa_cons (pe_op op_sub (pv 6) pe_int) pa_nil))) pa_nil)))))))
  (pss_one (ps_ret (pe_tup (pa_cons (pv 1) (pa_cons (pv 4) pa_nil))))))), ?_⟩
  and_intros
  intro D nD
  have nDe : D ≠ ev := (ne_of_none he.at_.choose_spec nD).symm
  and_intros
  refine ⟨⟨_, same_t (same_upd nD) hb⟩, ?_⟩
  refine for_tup (xs := bs.map V.ref) (fun i σ H' => ∃ y5 y6 a' , σ = [some (.ref h), some (.ref a'), some (.ref b), some (.ref ev), some (.ref D), y5, y6] ∧ SameX ev H H' ∧ IsSh K H' a' ((wy.take i).foldl (comeS rm) (sh, [], [])).1 ∧ IsWL K H' D ((wy.take i).foldl (comeS rm) (sh, [], [])).2.1 ∧ IsEv K H' ev ((wy.take i).foldl (comeS rm) (sh, [], [])).2.2)
    ⟨none, none, a, rfl, SameX.of (same_upd nD), hs.imm (Imm.same (same_upd nD)), ⟨[], upd_same, .nil⟩, he.same (same_upd nD)⟩ (fun i σ H' _ h => ?_) (fun i x σ H' hi h => ?_) (fun σ H' h => ?_)
  · obtain ⟨y5, y6, a', rfl, sX, _⟩ := h
    exact sX.t he.at_ hb
  · obtain ⟨y5, y6, a', rfl, sX, i1, i2, i3⟩ := h
    have im := Imm.sameX sX he.at_
    obtain ⟨p, e, hp, hpr, tk, _⟩ := pr_at pb hi
    subst hp
    have he2 := im.t hpr
    refine ⟨p, _, rfl, he2, rfl, _, _, rfl, _, _, rfl, rfl, ?_⟩
    have cl := comeP_len rm sh wy i
    have hh' := hh.x sX he.at_
    have efold : (wy.take (i + 1)).foldl (comeS rm) (sh, [], []) = comeS rm ((wy.take i).foldl (comeS rm) (sh, [], [])) e := by rw [tk, List.foldl_append]; rfl
    have hi' : i < wy.length := by
      have := (List.getElem?_eq_some_iff.mp hi).1
      rw [List.length_map, Paired.length pb] at this
      exact this
    rw [efold]
    generalize (wy.take i).foldl (comeS rm) (sh, [], []) = st at i1 i2 i3 cl efold
    obtain ⟨e1, e2⟩ := e
    and_intros
    by_cases c : e2 = 0
    · refine iteB (decide_eq_true (congrArg V.int c)) ?_
      have ec : comeS rm st (e1, e2) = ((laidP rm st.1 e1 true).1, st.2.1, st.2.2 ++ (laidP rm st.1 e1 true).2 ++ [(("come" : Str), e1)]) := if_pos c
      rw [ec]
      and_intros
      refine ⟨h, a', ev, pl, rm, lt, ms, e1, true, st.1, st.2.2, rfl, hh', i1, i3, h1, by omega, by omega, fun a2 H2 s2 j1 j3 => ?_⟩
      have j2 := i2.x nDe s2 i3.at_
      have ll := laidP_len (room := rm) (sh := st.1) (p := e1) (w := true)
      and_intros
      obtain ⟨es, q1, q2⟩ := j3
      refine ⟨.inl ⟨rfl, _, sql q1⟩, ?_⟩
      and_intros
      intro p1 n1
      have q1' := same_upd (o := .tup [.str "come", .int e1]) n1 _ _ q1
      have im1 : Imm H2 (upd H2 p1 (.tup [.str "come", .int e1])) := Imm.same (same_upd n1)
      have les : es.length = (st.2.2 ++ (laidP rm st.1 e1 true).2).length := Paired.length q2
      rw [List.length_append] at les
      and_intros
      refine ⟨_, _, _, rfl, rfl, q1', by rw [List.length_map]; exact szl (by omega), ?_⟩
      refine ⟨_, _, a2, rfl, ((sX.trans s2).trans (SameX.of (same_upd n1))).trans SameX.upd, (j1.imm im1).imm (Imm.upd ⟨_, q1'⟩), (j2.same (same_upd n1)).x nDe SameX.upd ⟨_, q1'⟩, IsEv.put q1' (q2.imm im1) (sqt upd_same)⟩
    · refine iteB0 (decide_eq_false fun z => c (V.int.inj z)) ?_
      have ec : comeS rm st (e1, e2) = (st.1, st.2.1 ++ [(e1, e2 - 1)], st.2.2) := if_neg c
      rw [ec]
      and_intros
      obtain ⟨es, q1, q2⟩ := i2
      refine ⟨.inl ⟨rfl, _, sql q1⟩, ?_⟩
      and_intros
      intro p1 n1
      have q1' := same_upd (o := .tup [.int e1, .int (e2 - 1)]) n1 _ _ q1
      have im1 : Imm H' (upd H' p1 (.tup [.int e1, .int (e2 - 1)])) := Imm.same (same_upd n1)
      have les : es.length = st.2.1.length := Paired.length q2
      and_intros
      refine ⟨_, _, _, rfl, rfl, q1', by rw [List.length_map]; exact szl (by omega), ?_⟩
      obtain ⟨fs, v1, v2⟩ := i3.same (same_upd (o := .tup [.int e1, .int (e2 - 1)]) n1)
      refine ⟨_, _, a', rfl, samex_mut (sX.trans (SameX.of (same_upd n1))) nD, (i1.imm im1).imm (Imm.upd ⟨_, q1'⟩), IsWL.put q1' (q2.imm im1) (sqt upd_same), ⟨fs, by rw [upd_ne nDe.symm]; exact v1, v2.imm (Imm.upd ⟨_, q1'⟩)⟩⟩
  · obtain ⟨y5, y6, a', rfl, sX, i1, i2, i3⟩ := h
    have ew : wy.take (bs.map V.ref).length = wy := by rw [List.length_map, Paired.length pb]; exact List.take_length
    rw [ew] at i1 i2 i3
    and_intros
    intro p1 n1
    exact q p1 a' D _ (sX.trans (SameX.of (same_upd n1))) nD nDe (sqt upd_same) (i1.imm (Imm.same (same_upd n1))) (i2.same (same_upd n1)) (i3.same (same_upd n1))
end
end St

namespace St
open PySem PySem.Spec PyProof.Rows L2
abbrev s_asked : Stmt := topS 27
abbrev N_asked : List Str := ["house", "shelf", "way", "place", "events", "one", "rest", "word", "other"]
abbrev p_asked : List Str := ["house", "shelf", "way", "place", "events"]
theorem sc_asked : FnScope N_asked p_asked (defScope s_asked) := ⟨rfl, rfl, rfl, by decide +kernel, rfl, by decide +kernel, by decide +kernel⟩
section
variable {P : Program} {w : World} {K : PySem.W.Frag} {mg : Str → Option Value} {base : Heap} {f f1 C : Addr} {fd fd1 : FuncData}
def spAsked (K : PySem.W.Frag) (C : Addr) : Sp := fun vs H Q _ => ∃ (h a b ev : Addr) (pl rm lt ms p : Int) (sh : Shelf) (wy : Way) (es : Evs), vs = [.ref h, .ref a, .ref b, .int p, .ref ev] ∧ IsH C H h pl rm lt ms ∧ IsSh K H a sh ∧ IsWL K H b wy ∧ b ≠ ev ∧ IsEv K H ev es ∧ 1 ≤ rm ∧ sh.length ≤ 1000 ∧ wy.length ≤ 1000 ∧ es.length ≤ 10000 ∧
  ∀ (q a' b' : Addr) H', SameX ev H H' → b' ≠ ev → (b' = b ∨ H b' = none) → SqT K H' q [.ref a', .ref b'] → IsSh K H' a' (askedP rm sh wy p).1 → IsWL K H' b' (askedP rm sh wy p).2.1 → IsEv K H' ev (es ++ (askedP rm sh wy p).2.2) → Q (.ref q) H'
theorem find_at {α : Type} {P : α → Bool} : ∀ {l : List α} {i : Nat} {e : α}, l[i]? = some e → (∀ x ∈ l.take i, P x = false) → P e = true → l.find? P = some e
  | [], _, _, h, _, _ => nomatch h
  | a :: r, 0, e, h, _, he => by
    cases Option.some.inj h
    rw [List.find?_cons, he]
  | a :: r, i + 1, e, h, hn, he => by
    have := hn a (List.mem_cons_self ..)
    rw [List.find?_cons, this]
    exact find_at (i := i) h (fun x hx => hn x (List.mem_cons_of_mem _ hx)) he
theorem lay_ib (a : Int) (b : Bool) : SeqAt.shaped (.tuple [.int a, .bool b]) = true := rfl
theorem dp_ib {K : PySem.W.Frag} {H : Hp} {p : Addr} {a : Int} {b : Bool} (h : SqT K H p [.int a, .bl b]) : Dp K H (.ref p) (.tuple [.int a, .bool b]) := .tup h (.cons (.int a) (.cons (.bl b) .nil))
theorem eqv_ib (a c : Int) (b d : Bool) : PyData.eqv (.tuple [.int a, .bool b]) (.tuple [.int c, .bool d]) = decide ((a, b) = (c, d)) := by
  simp only [PyData.eqv, PyData.eqvAll, Bool.and_true]
  by_cases x : a = c
  · subst x
    cases b <;> cases d <;> simp
  · simp [x]
theorem ok_asked (T : Nms mg) (HC : HouseC K C) (D_laid : Df K mg "laid" s_laid p_laid f1 fd1) (F : Fun K "asked" "asked" s_asked f fd) : FnOk P w K mg base CX0 2 f fd p_asked (spAsked K C) := by
  have G_laid : FnOk P w K mg base CX0 1 f1 fd1 p_laid (spLaid K C) := ok_laid T HC D_laid.F
  refine F.ok sc_asked (fun vs H Q E h => ?_) (fun cdv A outer s H vs Q E hr h => ?_)
  · obtain ⟨h, a, b, ev, pl, rm, lt, ms, p, sh, wy, es, rfl, _⟩ := h
    rfl
  obtain ⟨h, a, b, ev, pl, rm, lt, ms, p, sh, wy, es, rfl, hh, ⟨as, hs, ps⟩, hw, nbe, he, h1, hls, hlw, hle, q⟩ := h
  refine ⟨_, (pss_cons (ps_for PassesOwn.never rfl (pi_tup (pv 1)) (pg_name (i := 5) sc_asked.nd rfl (Or.inr rfl))
    (pss_one (ps_if (pt_cmpR op_eq (pe_ix ix_tup (pv 5) pe_int (fun _ _ => rfl)) (pv 3) (nomark _))
      (pss_cons (ps_expr (pe_bm PySem.F.plainAttrs_list PySem.F.slot_list_append PySem.F.type_list_append mt_append (pv 4) (pa_cons (pe_tup (pa_cons (pe_ifExp (pt_val (pe_ix ix_tup (pv 5) pe_int (fun _ _ => rfl))) pe_str pe_str) (pa_cons (pv 3) pa_nil))) pa_nil)))
      (pss_one (ps_ret (pe_tup (pa_cons (pe_op op_catA (pe_callTy call_tuple_of (by rfl) T.n_tuple (by decide +kernel) (pa_cons (pe_lc (own := [("other", 8)]) (g := gName 8) rfl sc_asked.nd (pi_tup (pv 1)) (blkOk_by (own := [("other", 8)]) (N := N_asked) (sc := defScope s_asked) (by decide +kernel)) (fun _ _ _ _ _ => pg_name (i := 8) sc_asked.nd rfl (Or.inl rfl)) (fun _ _ _ _ _ => pts_one (pt_cmpR (neD_K (K := K) hr.units) (pv 8) (pv 5) (nomark _))) (fun _ _ _ _ _ => (pv 8))) pa_nil)) (pe_tup (pa_cons (pe_tup (pa_cons (pv 3) (pa_cons pe_bl pa_nil))) pa_nil))) (pa_cons (pv 2) pa_nil))))))
      (pss_nil))))
  (pss_cons (ps_setLc (i := 6) (own := [("one", 5)]) (g := gName 5) rfl sc_asked.nd rfl rfl (sw_true rfl rfl rfl (by decide +kernel)) (pi_list (pv 2)) (blkOk_by (own := [("one", 5)]) (N := N_asked) (sc := defScope s_asked) (by decide +kernel)) (fun _ _ _ _ _ => pg_name (i := 5) sc_asked.nd rfl (Or.inl rfl)) (fun _ _ _ _ _ => pts_one (pt_cmpR op_ne (pe_ix (ix_tupK (K := K)) (pv 5) pe_int (fun _ _ => rfl)) (pv 3) (nomark _))) (fun _ _ _ _ _ => (pv 5)))
  (pss_cons (ps_set (i := 7) sc_asked.nd rfl (Or.inl rfl) (pe_ifExp (pt_cmpR op_eq (pe_callB call_len_seq (by rfl) T.n_len (by decide +kernel) (pa_cons (pv 6) pa_nil)) (pe_callB call_len_seq (by rfl) T.n_len (by decide +kernel) (pa_cons (pv 2) pa_nil)) (nomark _)) pe_str pe_str))
  (pss_cons (ps_set (i := 1) sc_asked.nd rfl (Or.inl rfl) (pe_call G_laid (hr.mono (by first | decide | omega)) (by rfl) D_laid.m D_laid.F.kp D_laid.b .nil pass0 (pa_cons (pv 0) (pa_cons (pv 1) (pa_cons (pv 3) (pa_cons pe_bl (pa_cons (pv 4) pa_nil)))))))
  (pss_cons (ps_expr (pe_bm PySem.F.plainAttrs_list PySem.F.slot_list_append PySem.F.type_list_append mt_append (pv 4) (pa_cons (pe_tup (pa_cons (pv 7) (pa_cons (pv 3) pa_nil))) pa_nil)))
  (pss_one (ps_ret (pe_tup (pa_cons (pv 1) (pa_cons (pv 6) pa_nil)))))))))), ?_⟩
  and_intros
  refine ⟨⟨_, hs⟩, ?_⟩
  refine for_tup (xs := as.map V.ref) (fun i σ H' => ∃ y5, σ = [some (.ref h), some (.ref a), some (.ref b), some (.int p), some (.ref ev), y5, none, none, none] ∧ H = H' ∧ ∀ x ∈ sh.take i, decide (x.1 = p) = false)
    ⟨none, rfl, rfl, fun _ h => (nomatch h)⟩ (fun i σ H' _ h => ?_) (fun i x σ H' hi h => ?_) (fun σ H' h => ?_)
  · obtain ⟨y5, rfl, rfl, _⟩ := h
    exact hs
  · obtain ⟨y5, rfl, rfl, hn⟩ := h
    obtain ⟨u, e, rfl, hu, tk, eg⟩ := pr_at ps hi
    obtain ⟨e1, e2⟩ := e
    have hu : SqT K H u [.int e1, .bl e2] := hu
    and_intros
    by_cases c : e1 = p
    · refine iteB (decide_eq_true (congrArg V.int c)) ?_
      subst c
      obtain ⟨fs, q1, q2⟩ := he
      have les : fs.length = es.length := Paired.length q2
      have ef : sh.find? (fun e => decide (e.1 = e1)) = some (e1, e2) := find_at eg hn (decide_eq_true rfl)
      and_intros
      refine ⟨.inl ⟨rfl, _, sql q1⟩, ?_⟩
      and_intros
      cases e2 with
      | true =>
        refine iteB rfl ?_
        have ea : askedP rm sh wy e1 = (sh.filter (fun o => decide (o ≠ (e1, true))) ++ [(e1, false)], wy, [(("first" : Str), e1)]) := by unfold askedP; rw [ef]; rfl
        rw [ea] at q
        and_intros
        intro p1 n1
        and_intros
        have q1' := same_upd (o := .tup [.str "first", .int e1]) n1 _ _ q1
        have im1 : Imm H (upd H p1 (.tup [.str "first", .int e1])) := Imm.same (same_upd n1)
        refine ⟨_, _, _, rfl, rfl, q1', by rw [List.length_map, les]; exact szl (by omega), ?_⟩
        have im2 := im1.trans (Imm.upd (o := .lst (fs.map V.ref ++ [.ref p1])) ⟨_, q1'⟩)
        have hs2 := im2.t hs
        have ps2 := ps.imm im2
        have sX : SameX ev H (upd (upd H p1 (.tup [.str "first", .int e1])) ev (.lst (fs.map V.ref ++ [.ref p1]))) := (SameX.of (same_upd n1)).trans SameX.upd
        have hw2 := hw.x nbe sX ⟨_, q1⟩
        have he2 : IsEv K (upd (upd H p1 (.tup [.str "first", .int e1])) ev (.lst (fs.map V.ref ++ [.ref p1]))) ev (es ++ [(("first" : Str), e1)]) := IsEv.put q1' (q2.imm im1) (sqt upd_same)
        generalize upd (upd H p1 (.tup [.str "first", .int e1])) ev (.lst (fs.map V.ref ++ [.ref p1])) = H2 at hs2 ps2 sX hw2 he2 im2 ⊢
        and_intros
        refine ⟨⟨_, hs2⟩, fun D nD => ?_⟩
        refine lc_tup (xs := as.map V.ref) (fun i H' => Same H2 H' ∧ ∃ cs : List Addr, H' D = some (.lst (cs.map V.ref)) ∧ PrS K H' cs ((sh.take i).filter (fun o => decide (o ≠ (e1, true))))) ⟨same_upd nD, [], upd_same, .nil⟩ (fun i H' _ h => same_t h.1 hs2) (fun i y H' hi h => ?_) (fun H' h => ?_)
        · obtain ⟨s3, cs, eD, pc⟩ := h
          obtain ⟨u2, o, rfl, hu2, tk2, eg2⟩ := pr_at (ps2.imm (Imm.same s3)) hi
          obtain ⟨o1, o2⟩ := o
          have hu' : SqT K H' u [.int e1, .bl true] := (im2.trans (Imm.same s3)).t hu
          and_intros
          refine ⟨.tuple [.int o1, .bool o2], .tuple [.int e1, .bool true], dp_ib hu2, dp_ib hu', lay_ib _ _, lay_ib _ _, ?_⟩
          rw [eqv_ib, tk2, filter_snoc]
          by_cases co : (o1, o2) = (e1, true)
          · rw [decide_eq_true co]
            refine ⟨_, rfl, iteB0 (b := !true) rfl ?_⟩
            rw [if_neg (by simp [co]), List.append_nil]
            exact ⟨s3, cs, eD, pc⟩
          · rw [decide_eq_false co]
            refine ⟨_, rfl, iteB (b := !false) rfl ?_⟩
            have lc : cs.length ≤ sh.length := by
              rw [Paired.length pc]
              refine Nat.le_trans (List.length_filter_le _ _) ?_
              rw [List.length_take]
              exact Nat.min_le_right _ _
            refine ⟨_, rfl, _, eD, by rw [List.length_map]; exact szl (by omega), same_mut s3 nD, cs ++ [u2], by rw [upd_same, List.map_append]; rfl, ?_⟩
            rw [if_pos (by simp [co])]
            exact Paired.snoc (pc.imm (Imm.upd ⟨_, eD⟩)) ((Imm.upd ⟨_, eD⟩).t hu2)
        · obtain ⟨s3, cs, eD, pc⟩ := h
          rw [show sh.take (as.map V.ref).length = sh by rw [List.length_map, Paired.length ps]; exact List.take_length] at pc
          have lc : cs.length ≤ sh.length := by
            rw [Paired.length pc]
            exact List.length_filter_le _ _
          refine ⟨_, _, rfl, .inl ⟨sql eD, fun t nt => ?_⟩⟩
          and_intros
          intro p4 n4
          and_intros
          intro p5 n5
          refine catA_ok (same_t (same_upd n5) (same_t (same_upd n4) (sqt upd_same))) (sqt upd_same) (by rw [List.length_map]; exact sz (by show cs.length + 1 ≤ _; omega)) fun p6 H6 s6 h6 => ?_
          and_intros
          intro p7 n7
          have sE : Same H2 H6 := (s3.trans ((same_upd nt).trans ((same_upd n4).trans (same_upd n5)))).trans s6
          have sE' : Same H' H6 := ((same_upd nt).trans ((same_upd n4).trans (same_upd n5))).trans s6
          have h4 : SqT K H6 p4 [.int e1, .bl false] := sqt (s6 _ _ (same_upd n5 _ _ upd_same))
          exact q p7 p6 b _ (sX.trans (SameX.of (sE.trans (same_upd n7)))) nbe (.inl rfl) (sqt upd_same) (IsSh.imm ⟨cs ++ [p4], by rw [List.map_append]; exact h6, Paired.snoc (pc.imm (Imm.same sE')) h4⟩ (Imm.same (same_upd n7))) (hw2.same (sE.trans (same_upd n7))) (he2.same (sE.trans (same_upd n7)))
      | false =>
        refine iteB0 rfl ?_
        have ea : askedP rm sh wy e1 = (sh.filter (fun o => decide (o ≠ (e1, false))) ++ [(e1, false)], wy, [(("hit" : Str), e1)]) := by unfold askedP; rw [ef]; rfl
        rw [ea] at q
        and_intros
        intro p1 n1
        and_intros
        have q1' := same_upd (o := .tup [.str "hit", .int e1]) n1 _ _ q1
        have im1 : Imm H (upd H p1 (.tup [.str "hit", .int e1])) := Imm.same (same_upd n1)
        refine ⟨_, _, _, rfl, rfl, q1', by rw [List.length_map, les]; exact szl (by omega), ?_⟩
        have im2 := im1.trans (Imm.upd (o := .lst (fs.map V.ref ++ [.ref p1])) ⟨_, q1'⟩)
        have hs2 := im2.t hs
        have ps2 := ps.imm im2
        have sX : SameX ev H (upd (upd H p1 (.tup [.str "hit", .int e1])) ev (.lst (fs.map V.ref ++ [.ref p1]))) := (SameX.of (same_upd n1)).trans SameX.upd
        have hw2 := hw.x nbe sX ⟨_, q1⟩
        have he2 : IsEv K (upd (upd H p1 (.tup [.str "hit", .int e1])) ev (.lst (fs.map V.ref ++ [.ref p1]))) ev (es ++ [(("hit" : Str), e1)]) := IsEv.put q1' (q2.imm im1) (sqt upd_same)
        generalize upd (upd H p1 (.tup [.str "hit", .int e1])) ev (.lst (fs.map V.ref ++ [.ref p1])) = H2 at hs2 ps2 sX hw2 he2 im2 ⊢
        and_intros
        refine ⟨⟨_, hs2⟩, fun D nD => ?_⟩
        refine lc_tup (xs := as.map V.ref) (fun i H' => Same H2 H' ∧ ∃ cs : List Addr, H' D = some (.lst (cs.map V.ref)) ∧ PrS K H' cs ((sh.take i).filter (fun o => decide (o ≠ (e1, false))))) ⟨same_upd nD, [], upd_same, .nil⟩ (fun i H' _ h => same_t h.1 hs2) (fun i y H' hi h => ?_) (fun H' h => ?_)
        · obtain ⟨s3, cs, eD, pc⟩ := h
          obtain ⟨u2, o, rfl, hu2, tk2, eg2⟩ := pr_at (ps2.imm (Imm.same s3)) hi
          obtain ⟨o1, o2⟩ := o
          have hu' : SqT K H' u [.int e1, .bl false] := (im2.trans (Imm.same s3)).t hu
          and_intros
          refine ⟨.tuple [.int o1, .bool o2], .tuple [.int e1, .bool false], dp_ib hu2, dp_ib hu', lay_ib _ _, lay_ib _ _, ?_⟩
          rw [eqv_ib, tk2, filter_snoc]
          by_cases co : (o1, o2) = (e1, false)
          · rw [decide_eq_true co]
            refine ⟨_, rfl, iteB0 (b := !true) rfl ?_⟩
            rw [if_neg (by simp [co]), List.append_nil]
            exact ⟨s3, cs, eD, pc⟩
          · rw [decide_eq_false co]
            refine ⟨_, rfl, iteB (b := !false) rfl ?_⟩
            have lc : cs.length ≤ sh.length := by
              rw [Paired.length pc]
              refine Nat.le_trans (List.length_filter_le _ _) ?_
              rw [List.length_take]
              exact Nat.min_le_right _ _
            refine ⟨_, rfl, _, eD, by rw [List.length_map]; exact szl (by omega), same_mut s3 nD, cs ++ [u2], by rw [upd_same, List.map_append]; rfl, ?_⟩
            rw [if_pos (by simp [co])]
            exact Paired.snoc (pc.imm (Imm.upd ⟨_, eD⟩)) ((Imm.upd ⟨_, eD⟩).t hu2)
        · obtain ⟨s3, cs, eD, pc⟩ := h
          rw [show sh.take (as.map V.ref).length = sh by rw [List.length_map, Paired.length ps]; exact List.take_length] at pc
          have lc : cs.length ≤ sh.length := by
            rw [Paired.length pc]
            exact List.length_filter_le _ _
          refine ⟨_, _, rfl, .inl ⟨sql eD, fun t nt => ?_⟩⟩
          and_intros
          intro p4 n4
          and_intros
          intro p5 n5
          refine catA_ok (same_t (same_upd n5) (same_t (same_upd n4) (sqt upd_same))) (sqt upd_same) (by rw [List.length_map]; exact sz (by show cs.length + 1 ≤ _; omega)) fun p6 H6 s6 h6 => ?_
          and_intros
          intro p7 n7
          have sE : Same H2 H6 := (s3.trans ((same_upd nt).trans ((same_upd n4).trans (same_upd n5)))).trans s6
          have sE' : Same H' H6 := ((same_upd nt).trans ((same_upd n4).trans (same_upd n5))).trans s6
          have h4 : SqT K H6 p4 [.int e1, .bl false] := sqt (s6 _ _ (same_upd n5 _ _ upd_same))
          exact q p7 p6 b _ (sX.trans (SameX.of (sE.trans (same_upd n7)))) nbe (.inl rfl) (sqt upd_same) (IsSh.imm ⟨cs ++ [p4], by rw [List.map_append]; exact h6, Paired.snoc (pc.imm (Imm.same sE')) h4⟩ (Imm.same (same_upd n7))) (hw2.same (sE.trans (same_upd n7))) (he2.same (sE.trans (same_upd n7)))
    · refine iteB0 (decide_eq_false fun z => c (V.int.inj z)) ?_
      refine ⟨_, rfl, rfl, fun x hx => ?_⟩
      rw [tk] at hx
      rcases List.mem_append.mp hx with hx | hx
      · exact hn x hx
      · rw [List.mem_singleton.mp hx]
        exact decide_eq_false c
  · obtain ⟨y5, rfl, rfl, hn⟩ := h
    rw [show sh.take (as.map V.ref).length = sh by rw [List.length_map, Paired.length ps]; exact List.take_length] at hn
    have ef : sh.find? (fun e => decide (e.1 = p)) = none := List.find?_eq_none.mpr fun x hx => by rw [hn x hx]; exact Bool.false_ne_true
    have ea : askedP rm sh wy p = ((laidP rm sh p false).1, wy.filter (fun e => decide (e.1 ≠ p)), (laidP rm sh p false).2 ++ [((if (wy.filter fun e => decide (e.1 ≠ p)).length = wy.length then "miss" else "late" : Str), p)]) := by unfold askedP; rw [ef]
    rw [ea] at q
    obtain ⟨ws, w1, w2⟩ := hw
    have lws : ws.length = wy.length := Paired.length w2
    and_intros
    refine ⟨⟨_, sql w1⟩, fun D nD => ?_⟩
    have nDe : D ≠ ev := (ne_of_none he.at_.choose_spec nD).symm
    refine lc_list (xs := ws.map V.ref) (fun i H' => Same H H' ∧ ∃ cs : List Addr, H' D = some (.lst (cs.map V.ref)) ∧ PrW K H' cs ((wy.take i).filter (fun e => decide (e.1 ≠ p)))) ⟨same_upd nD, [], upd_same, .nil⟩ (fun i H' _ h => sql (h.1 _ _ w1)) (fun i y H' hi h => ?_) (fun H' h => ?_)
    · obtain ⟨s3, cs, eD, pc⟩ := h
      obtain ⟨u2, o, rfl, hu2, tk2, eg2⟩ := pr_at (w2.imm (Imm.same s3)) hi
      obtain ⟨o1, o2⟩ := o
      have hu2 : SqT K H' u2 [.int o1, .int o2] := hu2
      and_intros
      rw [tk2, filter_snoc]
      by_cases co : o1 = p
      · refine iteB0 (by rw [decide_eq_true (congrArg V.int co)]; rfl) ?_
        rw [if_neg (by simp [co]), List.append_nil]
        exact ⟨s3, cs, eD, pc⟩
      · refine iteB (by rw [decide_eq_false fun z => co (V.int.inj z)]; rfl) ?_
        have lc : cs.length ≤ wy.length := by
          rw [Paired.length pc]
          refine Nat.le_trans (List.length_filter_le _ _) ?_
          rw [List.length_take]
          exact Nat.min_le_right _ _
        refine ⟨_, rfl, _, eD, by rw [List.length_map]; exact szl (by omega), same_mut s3 nD, cs ++ [u2], by rw [upd_same, List.map_append]; rfl, ?_⟩
        rw [if_pos (by simp [co])]
        exact Paired.snoc (pc.imm (Imm.upd ⟨_, eD⟩)) ((Imm.upd ⟨_, eD⟩).t hu2)
    · obtain ⟨s3, cs, eD, pc⟩ := h
      rw [show wy.take (ws.map V.ref).length = wy by rw [List.length_map, lws]; exact List.take_length] at pc
      have lcs : cs.length = (wy.filter (fun e => decide (e.1 ≠ p))).length := Paired.length pc
      have w1' := s3 _ _ w1
      have hR : IsWL K H' D (wy.filter (fun e => decide (e.1 ≠ p))) := ⟨cs, eD, pc⟩
      have hs' := same_t s3 hs
      have ps' := ps.imm (Imm.same s3)
      have he' := he.same s3
      have hh' := hh.same s3
      generalize wy.filter (fun e => decide (e.1 ≠ p)) = rest at lcs hR q
      and_intros
      have lcm : (V.int ((cs.map V.ref).length : Nat) = V.int ((ws.map V.ref).length : Nat)) ↔ rest.length = wy.length := by
        rw [List.length_map, List.length_map, lcs, lws]
        exact ⟨fun z => Int.ofNat.inj (V.int.inj z), fun z => by rw [z]⟩
      by_cases cm : rest.length = wy.length
      · refine iteB (decide_eq_true (lcm.mpr cm)) ?_
        rw [if_pos cm] at q
        and_intros
        refine ⟨h, a, ev, pl, rm, lt, ms, p, false, sh, es, rfl, hh', ⟨as, hs', ps'⟩, he', h1, hls, by omega, fun a2 H2 s2 j1 j3 => ?_⟩
        have j2 := hR.x nDe s2 he'.at_
        have ll := laidP_len (room := rm) (sh := sh) (p := p) (w := false)
        and_intros
        obtain ⟨gs, q1, q2⟩ := j3
        refine ⟨.inl ⟨rfl, _, sql q1⟩, ?_⟩
        and_intros
        intro p1 n1
        have q1' := same_upd (o := .tup [.str "miss", .int p]) n1 _ _ q1
        have im1 : Imm H2 (upd H2 p1 (.tup [.str "miss", .int p])) := Imm.same (same_upd n1)
        have les : gs.length = (es ++ (laidP rm sh p false).2).length := Paired.length q2
        rw [List.length_append] at les
        and_intros
        refine ⟨_, _, _, rfl, rfl, q1', by rw [List.length_map]; exact szl (by omega), ?_⟩
        have sX : SameX ev H (upd (upd H2 p1 (.tup [.str "miss", .int p])) ev (.lst (gs.map V.ref ++ [.ref p1]))) := (((SameX.of s3).trans s2).trans (SameX.of (same_upd n1))).trans SameX.upd
        have k1 := (j1.imm im1).imm (Imm.upd (o := .lst (gs.map V.ref ++ [.ref p1])) ⟨_, q1'⟩)
        have k2 := (j2.same (same_upd (o := .tup [.str "miss", .int p]) n1)).x nDe (SameX.upd (o := .lst (gs.map V.ref ++ [.ref p1]))) ⟨_, q1'⟩
        have k3 : IsEv K (upd (upd H2 p1 (.tup [.str "miss", .int p])) ev (.lst (gs.map V.ref ++ [.ref p1]))) ev (es ++ (laidP rm sh p false).2 ++ [(("miss" : Str), p)]) := IsEv.put q1' (q2.imm im1) (sqt upd_same)
        generalize upd (upd H2 p1 (.tup [.str "miss", .int p])) ev (.lst (gs.map V.ref ++ [.ref p1])) = H3 at sX k1 k2 k3 ⊢
        and_intros
        intro p2 n2
        rw [List.append_assoc] at k3
        exact q p2 a2 D _ (sX.trans (SameX.of (same_upd n2))) nDe (.inr nD) (sqt upd_same) (k1.imm (Imm.same (same_upd n2))) (k2.same (same_upd n2)) (k3.same (same_upd n2))
      · refine iteB0 (decide_eq_false fun z => cm (lcm.mp z)) ?_
        rw [if_neg cm] at q
        and_intros
        refine ⟨h, a, ev, pl, rm, lt, ms, p, false, sh, es, rfl, hh', ⟨as, hs', ps'⟩, he', h1, hls, by omega, fun a2 H2 s2 j1 j3 => ?_⟩
        have j2 := hR.x nDe s2 he'.at_
        have ll := laidP_len (room := rm) (sh := sh) (p := p) (w := false)
        and_intros
        obtain ⟨gs, q1, q2⟩ := j3
        refine ⟨.inl ⟨rfl, _, sql q1⟩, ?_⟩
        and_intros
        intro p1 n1
        have q1' := same_upd (o := .tup [.str "late", .int p]) n1 _ _ q1
        have im1 : Imm H2 (upd H2 p1 (.tup [.str "late", .int p])) := Imm.same (same_upd n1)
        have les : gs.length = (es ++ (laidP rm sh p false).2).length := Paired.length q2
        rw [List.length_append] at les
        and_intros
        refine ⟨_, _, _, rfl, rfl, q1', by rw [List.length_map]; exact szl (by omega), ?_⟩
        have sX : SameX ev H (upd (upd H2 p1 (.tup [.str "late", .int p])) ev (.lst (gs.map V.ref ++ [.ref p1]))) := (((SameX.of s3).trans s2).trans (SameX.of (same_upd n1))).trans SameX.upd
        have k1 := (j1.imm im1).imm (Imm.upd (o := .lst (gs.map V.ref ++ [.ref p1])) ⟨_, q1'⟩)
        have k2 := (j2.same (same_upd (o := .tup [.str "late", .int p]) n1)).x nDe (SameX.upd (o := .lst (gs.map V.ref ++ [.ref p1]))) ⟨_, q1'⟩
        have k3 : IsEv K (upd (upd H2 p1 (.tup [.str "late", .int p])) ev (.lst (gs.map V.ref ++ [.ref p1]))) ev (es ++ (laidP rm sh p false).2 ++ [(("late" : Str), p)]) := IsEv.put q1' (q2.imm im1) (sqt upd_same)
        generalize upd (upd H2 p1 (.tup [.str "late", .int p])) ev (.lst (gs.map V.ref ++ [.ref p1])) = H3 at sX k1 k2 k3 ⊢
        and_intros
        intro p2 n2
        rw [List.append_assoc] at k3
        exact q p2 a2 D _ (sX.trans (SameX.of (same_upd n2))) nDe (.inr nD) (sqt upd_same) (k1.imm (Imm.same (same_upd n2))) (k2.same (same_upd n2)) (k3.same (same_upd n2))
end
end St

namespace St
open PySem PySem.Spec PyProof.Rows L2
abbrev s_started : Stmt := topS 28
abbrev N_started : List Str := ["house", "shelf", "way", "guessed", "events", "found", "place", "there", "one"]
abbrev p_started : List Str := ["house", "shelf", "way", "guessed", "events"]
theorem sc_started : FnScope N_started p_started (defScope s_started) := ⟨rfl, rfl, rfl, by decide +kernel, rfl, by decide +kernel, by decide +kernel⟩
section
variable {P : Program} {w : World} {K : PySem.W.Frag} {mg : Str → Option Value} {base : Heap} {f C : Addr} {fd : FuncData}
def spStarted (K : PySem.W.Frag) (C : Addr) : Sp := fun vs H Q _ => ∃ (h a b g ev : Addr) (pl rm lt ms : Int) (sh : Shelf) (wy : Way) (gs : List Int) (es : Evs), vs = [.ref h, .ref a, .ref b, .ref g, .ref ev] ∧ IsH C H h pl rm lt ms ∧ IsSh K H a sh ∧ IsWL K H b wy ∧ g ≠ ev ∧ H g = some (.lst (gs.map V.int)) ∧ IsEv K H ev es ∧ sh.length ≤ 1000 ∧ wy.length ≤ 1000 ∧ gs.length ≤ 1000 ∧ es.length ≤ 10000 ∧
  ∀ (b' : Addr) H', SameX ev H H' → H b' = none → b' ≠ ev → IsWL K H' b' (startedP pl lt ms sh wy gs).1 → IsEv K H' ev (es ++ (startedP pl lt ms sh wy gs).2) → Q (.ref b') H'
theorem startedP_len (pl lt ms : Int) (sh : Shelf) (wy : Way) : ∀ (gs : List Int) (i : Nat), ((gs.take i).foldl (startS pl lt ms sh) (wy, [])).1.length ≤ wy.length + i ∧ ((gs.take i).foldl (startS pl lt ms sh) (wy, [])).2.length ≤ i
  | gs, 0 => by rw [List.take_zero]; exact ⟨Nat.le_refl _, Nat.le_refl _⟩
  | gs, i + 1 => by
    have ih := startedP_len pl lt ms sh wy gs i
    rw [List.take_add_one, List.foldl_append]
    generalize (gs.take i).foldl (startS pl lt ms sh) (wy, []) = s at ih
    cases e : gs[i]? with
    | none => exact ⟨Nat.le_succ_of_le ih.1, Nat.le_succ_of_le ih.2⟩
    | some x =>
      show (startS pl lt ms sh s x).1.length ≤ _ ∧ (startS pl lt ms sh s x).2.length ≤ _
      unfold startS
      split
      · refine ⟨?_, ?_⟩
        · show (s.1 ++ [_]).length ≤ _
          rw [List.length_append]
          exact Nat.succ_le_succ ih.1
        · show (s.2 ++ [_]).length ≤ _
          rw [List.length_append]
          exact Nat.succ_le_succ ih.2
      · exact ⟨Nat.le_succ_of_le ih.1, Nat.le_succ_of_le ih.2⟩
theorem ok_started (T : Nms mg) (HC : HouseC K C) (F : Fun K "started" "started" s_started f fd) : FnOk P w K mg base CX0 1 f fd p_started (spStarted K C) := by
  refine F.ok sc_started (fun vs H Q E h => ?_) (fun cdv A outer s H vs Q E hr h => ?_)
  · obtain ⟨h, a, b, g, ev, pl, rm, lt, ms, sh, wy, gs, es, rfl, _⟩ := h
    rfl
  obtain ⟨h, a, b, g, ev, pl, rm, lt, ms, sh, wy, gs, es, rfl, hh, hs, hw, nge, hg, he, hls, hlw, hlg, hle, q⟩ := h
  refine ⟨_, (pss_cons (ps_set (i := 5) sc_started.nd rfl (Or.inl rfl) (pe_callTy call_list_of (by rfl) T.n_list (by decide +kernel) (pa_cons (pv 2) pa_nil)))
  (pss_cons (ps_for PassesOwn.never rfl (pi_list (pv 3)) (pg_name (i := 6) sc_started.nd rfl (Or.inl rfl))
    (pss_cons (ps_set (i := 7) sc_started.nd rfl (Or.inl rfl) (pe_op op_cat (pe_lc (own := [("one", 8)]) (g := gName 8) rfl sc_started.nd (pi_tup (pv 1)) (blkOk_by (own := [("one", 8)]) (N := N_started) (sc := defScope s_started) (by decide +kernel)) (fun _ _ _ _ _ => pg_name (i := 8) sc_started.nd rfl (Or.inl rfl)) (fun _ _ _ _ _ => pts_nil) (fun _ _ _ _ _ => (pe_ix (ix_tupK (K := K)) (pv 8) pe_int (fun _ _ => rfl)))) (pe_lc (own := [("one", 8)]) (g := gName 8) rfl sc_started.nd (pi_list (pv 5)) (blkOk_by (own := [("one", 8)]) (N := N_started) (sc := defScope s_started) (by decide +kernel)) (fun _ _ _ _ _ => pg_name (i := 8) sc_started.nd rfl (Or.inl rfl)) (fun _ _ _ _ _ => pts_nil) (fun _ _ _ _ _ => (pe_ix (ix_tupK (K := K)) (pv 8) pe_int (fun _ _ => rfl))))))
    (pss_one (ps_if (PW.pt (pw_and (pt_chain op_le op_lt pe_int (pv 6) (pe_fld (pv 0) rfl)) (pw_and (pt_cmpR op_notIn_seq (pv 6) (pv 7) (by with_unfolding_all rfl)) (pw_and1 (pt_cmpR op_lt (pe_callB call_len_seq (by rfl) T.n_len (by decide +kernel) (pa_cons (pv 5) pa_nil)) (pe_fld (pv 0) rfl) (nomark _))))))
      (pss_cons (ps_expr (pe_bm PySem.F.plainAttrs_list PySem.F.slot_list_append PySem.F.type_list_append mt_append (pv 5) (pa_cons (pe_tup (pa_cons (pv 6) (pa_cons (pe_fld (pv 0) rfl) pa_nil))) pa_nil)))
      (pss_one (ps_expr (pe_bm PySem.F.plainAttrs_list PySem.F.slot_list_append PySem.F.type_list_append mt_append (pv 4) (pa_cons (pe_tup (pa_cons pe_str (pa_cons (pv 6) pa_nil))) pa_nil)))))
      (pss_nil)))))
  (pss_one (ps_ret (pv 5))))), ?_⟩
  obtain ⟨ws, w1, w2⟩ := id hw
  refine ⟨_, rfl, _, _, rfl, .inl (sql w1), fun D nD => ?_⟩
  have nDe : D ≠ ev := (ne_of_none he.at_.choose_spec nD).symm
  and_intros
  refine ⟨⟨_, sql (same_upd nD _ _ hg)⟩, ?_⟩
  refine for_list (xs := gs.map V.int) (fun i σ H' => ∃ y6 y7, σ = [some (.ref h), some (.ref a), some (.ref b), some (.ref g), some (.ref ev), some (.ref D), y6, y7, none] ∧ SameX ev H H' ∧ IsWL K H' D ((gs.take i).foldl (startS pl lt ms sh) (wy, [])).1 ∧ IsEv K H' ev (es ++ ((gs.take i).foldl (startS pl lt ms sh) (wy, [])).2))
    ⟨none, none, rfl, SameX.of (same_upd nD), ⟨ws, upd_same, w2.imm (Imm.same (same_upd nD))⟩, by rw [List.take_zero]; show IsEv K _ ev (es ++ []); rw [List.append_nil]; exact he.same (same_upd nD)⟩ (fun i σ H' _ h => ?_) (fun i x σ H' hi h => ?_) (fun σ H' h => ?_)
  · obtain ⟨y6, y7, rfl, sX, _⟩ := h
    exact sql (sX _ _ nge hg)
  · obtain ⟨y6, y7, rfl, sX, i1, i2⟩ := h
    obtain ⟨p, rfl, eg, tk⟩ := at_ints hi
    have efold : (gs.take (i + 1)).foldl (startS pl lt ms sh) (wy, []) = startS pl lt ms sh ((gs.take i).foldl (startS pl lt ms sh) (wy, [])) p := by rw [tk, List.foldl_append]; rfl
    rw [efold]
    have ll := startedP_len pl lt ms sh wy gs i
    generalize (gs.take i).foldl (startS pl lt ms sh) (wy, []) = st at i1 i2 ll efold
    have hi' : i < gs.length := (List.getElem?_eq_some_iff.mp eg).1
    obtain ⟨as, hs1, hs2⟩ := hs.imm (Imm.sameX sX he.at_)
    obtain ⟨dx, hh'⟩ := hh.x sX he.at_
    obtain ⟨ds, d1, d2⟩ := id i1
    obtain ⟨fs, e1, e2⟩ := id i2
    have las : as.length = sh.length := Paired.length hs2
    have lds : ds.length = st.1.length := Paired.length d2
    have lfs : fs.length = (es ++ st.2).length := Paired.length e2
    rw [List.length_append] at lfs
    and_intros
    refine ⟨⟨_, hs1⟩, fun L nL => ?_⟩
    refine lc_tup (xs := as.map V.ref) (fun i H2 => Same H' H2 ∧ H2 L = some (.lst (((sh.map (·.1)).take i).map V.int))) ⟨same_upd nL, upd_same⟩ (fun i H2 _ h => same_t h.1 hs1) (fun i y H2 hi h => ?_) (fun H2 h => ?_)
    · obtain ⟨u, o, rfl, hu, tk2, eg2⟩ := pr_at (hs2.imm (Imm.same h.1)) hi
      have hi2 := (List.getElem?_eq_some_iff.mp eg2).1
      and_intros
      refine ⟨_, h.2, by rw [List.length_map, List.length_take, List.length_map]; exact szl (by omega), same_mut h.1 nL, ?_⟩
      rw [upd_same, ← List.map_take, ← List.map_take, tk2, List.map_append, List.map_append]
      rfl
    · have hL : H2 L = some (.lst ((sh.map (·.1)).map V.int)) := by
        have z := h.2
        rw [show (sh.map (·.1)).take (as.map V.ref).length = sh.map (·.1) by rw [List.length_map, las]; exact List.take_of_length_le (by rw [List.length_map]; exact Nat.le_refl _)] at z
        exact z
      have d1' := h.1 _ _ d1
      have hs' : Same H' H2 := h.1
      clear h
      and_intros
      refine ⟨⟨_, sql d1'⟩, fun M nM => ?_⟩
      refine lc_list (xs := ds.map V.ref) (fun i H3 => Same H2 H3 ∧ H3 M = some (.lst (((st.1.map (·.1)).take i).map V.int))) ⟨same_upd nM, upd_same⟩ (fun i H3 _ h => sql (h.1 _ _ d1')) (fun i y H3 hi h => ?_) (fun H3 h3 => ?_)
      · obtain ⟨u, o, rfl, hu, tk2, eg2⟩ := pr_at (d2.imm (Imm.same (hs'.trans h.1))) hi
        have hi2 := (List.getElem?_eq_some_iff.mp eg2).1
        and_intros
        refine ⟨_, h.2, by rw [List.length_map, List.length_take, List.length_map]; exact szl (by omega), same_mut h.1 nM, ?_⟩
        rw [upd_same, ← List.map_take, ← List.map_take, tk2, List.map_append, List.map_append]
        rfl
      · have hM : H3 M = some (.lst ((st.1.map (·.1)).map V.int)) := by
          have z := h3.2
          rw [show (st.1.map (·.1)).take (ds.map V.ref).length = st.1.map (·.1) by rw [List.length_map, lds]; exact List.take_of_length_le (by rw [List.length_map]; exact Nat.le_refl _)] at z
          exact z
        refine ⟨_, _, _, _, rfl, rfl, h3.1 _ _ hL, hM, by simp only [List.length_map]; exact sz (by omega), fun N nN => ?_⟩
        rw [← List.map_append]
        have s4 : Same H' (upd H3 N (.lst ((sh.map (·.1) ++ st.1.map (·.1)).map V.int))) := (hs'.trans h3.1).trans (same_upd nN)
        have hN : (upd H3 N (.lst ((sh.map (·.1) ++ st.1.map (·.1)).map V.int))) N = some (.lst ((sh.map (·.1) ++ st.1.map (·.1)).map V.int)) := upd_same
        generalize upd H3 N (.lst ((sh.map (·.1) ++ st.1.map (·.1)).map V.int)) = H4 at s4 hN ⊢
        have hh4 := s4 _ _ hh'
        have i1' := i1.same s4
        have i2' := i2.same s4
        have sX4 := sX.trans (SameX.of s4)
        and_intros
        have out : ¬ ((0 ≤ p ∧ p < pl) ∧ p ∉ sh.map (·.1) ++ st.1.map (·.1) ∧ ((st.1.length : Nat) : Int) < ms) → IsWL K H4 D (startS pl lt ms sh st p).1 ∧ IsEv K H4 ev (es ++ (startS pl lt ms sh st p).2) := fun z => by
          rw [show startS pl lt ms sh st p = st from if_neg z]
          exact ⟨i1', i2'⟩
        by_cases c1 : 0 ≤ p
        · refine iteB (decide_eq_true c1) ?_
          refine ⟨_, rfl, h, C, dx, _, _, rfl, hh4, HC.cl, HC.places, hfl_places _ _ _ _, ?_⟩
          and_intros
          by_cases c2 : p < pl
          · refine iteB (decide_eq_true c2) ?_
            and_intros
            refine ⟨flat_ints _, ?_⟩
            rw [inV_ints]
            by_cases c3 : p ∈ sh.map (·.1) ++ st.1.map (·.1)
            · rw [decide_eq_true c3]
              refine ⟨_, rfl, iteB0 (b := !true) rfl ?_⟩
              refine iteB0 rfl ?_
              exact ⟨_, _, rfl, sX4, out fun z => z.2.1 c3⟩
            · rw [decide_eq_false c3]
              refine ⟨_, rfl, iteB (b := !false) rfl ?_⟩
              obtain ⟨ds4, q1, q2⟩ := id i1'
              have lds4 : ds4.length = st.1.length := Paired.length q2
              and_intros
              refine ⟨h, C, dx, _, _, rfl, hh4, HC.cl, HC.most, hfl_most _ _ _ _, ?_⟩
              and_intros
              by_cases c4 : ((st.1.length : Nat) : Int) < ms
              · refine iteB (decide_eq_true (by rw [List.length_map, lds4]; exact c4)) ?_
                have es_ : startS pl lt ms sh st p = (st.1 ++ [(p, lt)], st.2 ++ [(("start" : Str), p)]) := if_pos ⟨⟨c1, c2⟩, c3, c4⟩
                rw [es_]
                and_intros
                refine ⟨.inl ⟨rfl, _, sql q1⟩, ?_⟩
                and_intros
                refine ⟨h, C, dx, _, _, rfl, hh4, HC.cl, HC.late, hfl_late _ _ _ _, ?_⟩
                and_intros
                intro p1 n1
                have q1' := same_upd (o := .tup [.int p, .int lt]) n1 _ _ q1
                have im1 : Imm H4 (upd H4 p1 (.tup [.int p, .int lt])) := Imm.same (same_upd n1)
                and_intros
                refine ⟨_, _, _, rfl, rfl, q1', by rw [List.length_map]; exact szl (by omega), ?_⟩
                have k1 : IsWL K (upd (upd H4 p1 (.tup [.int p, .int lt])) D (.lst (ds4.map V.ref ++ [.ref p1]))) D (st.1 ++ [(p, lt)]) := IsWL.put q1' (q2.imm im1) (sqt upd_same)
                obtain ⟨fs4, v1, v2⟩ := i2'.same (same_upd (o := .tup [.int p, .int lt]) n1)
                have k2 : IsEv K (upd (upd H4 p1 (.tup [.int p, .int lt])) D (.lst (ds4.map V.ref ++ [.ref p1]))) ev (es ++ st.2) := ⟨fs4, by rw [upd_ne nDe.symm]; exact v1, v2.imm (Imm.upd ⟨_, q1'⟩)⟩
                have k3 : SameX ev H (upd (upd H4 p1 (.tup [.int p, .int lt])) D (.lst (ds4.map V.ref ++ [.ref p1]))) := samex_mut (sX4.trans (SameX.of (same_upd n1))) nD
                generalize upd (upd H4 p1 (.tup [.int p, .int lt])) D (.lst (ds4.map V.ref ++ [.ref p1])) = H5 at k1 k2 k3 ⊢
                obtain ⟨fs5, v1, v2⟩ := id k2
                have lfs5 : fs5.length = (es ++ st.2).length := Paired.length v2
                rw [List.length_append] at lfs5
                and_intros
                refine ⟨.inl ⟨rfl, _, sql v1⟩, ?_⟩
                and_intros
                intro p2 n2
                have v1' := same_upd (o := .tup [.str "start", .int p]) n2 _ _ v1
                and_intros
                refine ⟨_, _, _, rfl, rfl, v1', by rw [List.length_map]; exact szl (by omega), ?_⟩
                have k4 : IsEv K (upd (upd H5 p2 (.tup [.str "start", .int p])) ev (.lst (fs5.map V.ref ++ [.ref p2]))) ev (es ++ st.2 ++ [(("start" : Str), p)]) := IsEv.put v1' (v2.imm (Imm.same (same_upd n2))) (sqt upd_same)
                rw [List.append_assoc] at k4
                exact ⟨_, _, rfl, (k3.trans (SameX.of (same_upd n2))).trans SameX.upd, (k1.same (same_upd n2)).x nDe SameX.upd ⟨_, v1'⟩, k4⟩
              · refine iteB0 (decide_eq_false (by rw [List.length_map, lds4]; exact c4)) ?_
                exact ⟨_, _, rfl, sX4, out fun z => c4 z.2.2⟩
          · refine iteB0 (decide_eq_false c2) ?_
            refine iteB0 rfl ?_
            exact ⟨_, _, rfl, sX4, out fun z => c2 z.1.2⟩
        · refine iteB0 (decide_eq_false c1) ?_
          refine ⟨_, rfl, iteB0 rfl ?_⟩
          refine iteB0 rfl ?_
          exact ⟨_, _, rfl, sX4, out fun z => c1 z.1.1⟩
  · obtain ⟨y6, y7, rfl, sX, i1, i2⟩ := h
    rw [show gs.take (gs.map V.int).length = gs by rw [List.length_map]; exact List.take_length] at i1 i2
    and_intros
    exact q D H' sX nD nDe i1 i2
end
end St

namespace St
open PySem PySem.Spec PyProof.Rows L2
abbrev s_gone_on : Stmt := topS 29
abbrev N_gone_on : List Str := ["house", "guesser", "state", "place", "events", "shelf", "way", "known", "guessed"]
abbrev p_gone_on : List Str := ["house", "guesser", "state", "place"]
theorem sc_gone_on : FnScope N_gone_on p_gone_on (defScope s_gone_on) := ⟨rfl, rfl, rfl, by decide +kernel, rfl, by decide +kernel, by decide +kernel⟩
abbrev s_begun : Stmt := topS 24
abbrev N_begun : List Str := ["guesser"]
abbrev p_begun : List Str := ["guesser"]
theorem sc_begun : FnScope N_begun p_begun (defScope s_begun) := ⟨rfl, rfl, rfl, by decide +kernel, rfl, by decide +kernel, by decide +kernel⟩
/-- a run's state -/
abbrev RSt := Shelf × Way × Sg
def IsSt (K : PySem.W.Frag) (H : Hp) (a : Addr) (s : RSt) : Prop := ∃ (a1 a2 : Addr) (v : V), SqT K H a [.ref a1, .ref a2, v] ∧ IsSh K H a1 s.1 ∧ IsWT K H a2 s.2.1 ∧ IsS K H s.2.2 v
theorem IsSt.imm {K : PySem.W.Frag} {H H' : Hp} {a : Addr} {s : RSt} (h : IsSt K H a s) (e : Imm H H') : IsSt K H' a s := by
  obtain ⟨a1, a2, v, h1, h2, h3, h4⟩ := h
  exact ⟨a1, a2, v, e.t h1, h2.imm e, h3.imm e, h4.imm e⟩
def goneP (pl rm lt ms : Int) (g : G) (s : RSt) (p : Int) : RSt × Evs :=
  (((askedP rm (comeP rm s.1 s.2.1).1 (comeP rm s.1 s.2.1).2.1 p).1, (startedP pl lt ms (askedP rm (comeP rm s.1 s.2.1).1 (comeP rm s.1 s.2.1).2.1 p).1 (askedP rm (comeP rm s.1 s.2.1).1 (comeP rm s.1 s.2.1).2.1 p).2.1 (stepG g s.2.2 p).2).1, (stepG g s.2.2 p).1),
   (comeP rm s.1 s.2.1).2.2 ++ (askedP rm (comeP rm s.1 s.2.1).1 (comeP rm s.1 s.2.1).2.1 p).2.2 ++ (startedP pl lt ms (askedP rm (comeP rm s.1 s.2.1).1 (comeP rm s.1 s.2.1).2.1 p).1 (askedP rm (comeP rm s.1 s.2.1).1 (comeP rm s.1 s.2.1).2.1 p).2.1 (stepG g s.2.2 p).2).2)
theorem askedP_len (rm : Int) (sh : Shelf) (wy : Way) (p : Int) : (askedP rm sh wy p).1.length ≤ sh.length + 1 ∧ (askedP rm sh wy p).2.1.length ≤ wy.length ∧ (askedP rm sh wy p).2.2.length ≤ 2 := by
  unfold askedP
  split
  · refine ⟨?_, Nat.le_refl _, by show 1 ≤ 2; decide⟩
    show (_ ++ [_]).length ≤ _
    rw [List.length_append]
    exact Nat.succ_le_succ (List.length_filter_le _ _)
  · have ll := laidP_len (room := rm) (sh := sh) (p := p) (w := false)
    refine ⟨ll.1, List.length_filter_le _ _, ?_⟩
    show (_ ++ [_]).length ≤ _
    rw [List.length_append]
    exact Nat.succ_le_succ ll.2
theorem sameX_same {H H1 H' : Hp} {r : Addr} (a : Same H H1) (b : SameX r H1 H') (n : H r = none) : Same H H' := fun c o h => b c o (ne_of_none h n) (a c o h)
section
variable {P : Program} {w : World} {K : PySem.W.Frag} {mg : Str → Option Value} {base : Heap} {f f1 f2 f3 f4 f5 f6 f7 C : Addr} {fd fd1 fd2 fd3 fd4 fd5 fd6 fd7 : FuncData}
def GoneQ (K : PySem.W.Frag) (H : Hp) (Q : VK) (r : RSt × Evs) : Prop := ∀ (q st ev : Addr) (H' : Hp), Same H H' → H ev = none → H' q = some (.tup [.ref st, .ref ev]) → IsSt K H' st r.1 → IsEv K H' ev r.2 → Q (.ref q) H'
def spGone (K : PySem.W.Frag) (C : Addr) : Sp := fun vs H Q _ => ∃ (h st : Addr) (v : V) (g : G) (pl rm lt ms p : Int) (s : RSt) (N : Nat), vs = [.ref h, v, .ref st, .int p] ∧ IsH C H h pl rm lt ms ∧ IsG K H g v ∧ good 3 g = true ∧ IsSt K H st s ∧ Fit g s.2.2 ∧ okS N s.2.2 ∧ N ≤ 10000 ∧ 1 ≤ rm ∧ s.1.length ≤ 100 ∧ s.2.1.length ≤ 100 ∧
  GoneQ K H Q (goneP pl rm lt ms g s p)
theorem ok_gone_on (T : Nms mg) (HC : HouseC K C) (D_laid : Df K mg "laid" s_laid p_laid f1 fd1) (D_come : Df K mg "come" s_come p_come f2 fd2) (D_asked : Df K mg "asked" s_asked p_asked f3 fd3) (D_started : Df K mg "started" s_started p_started f4 fd4)
    (D_strided : Df K mg "strided" s_strided p_strided f5 fd5) (D_paired : Df K mg "paired" s_paired p_paired f6 fd6) (D_stepped : Df K mg "stepped" s_stepped p_stepped f7 fd7) (F : Fun K "gone_on" "gone_on" s_gone_on f fd) : FnOk P w K mg base CX0 6 f fd p_gone_on (spGone K C) := by
  have G_come : FnOk P w K mg base CX0 2 f2 fd2 p_come (spCome K C) := ok_come T HC D_laid D_come.F
  have G_asked : FnOk P w K mg base CX0 2 f3 fd3 p_asked (spAsked K C) := ok_asked T HC D_laid D_asked.F
  have G_started : FnOk P w K mg base CX0 1 f4 fd4 p_started (spStarted K C) := ok_started T HC D_started.F
  have G_stepped : FnOk P w K mg base CX0 5 f7 fd7 p_stepped (spStepped K 4) := ok_stepped T D_strided D_paired D_stepped 4
  refine F.ok sc_gone_on (fun vs H Q E h => ?_) (fun cdv A outer s H vs Q E hr h => ?_)
  · obtain ⟨h, st, v, g, pl, rm, lt, ms, p, s, N, rfl, _⟩ := h
    rfl
  obtain ⟨h, st, v, g, pl, rm, lt, ms, p, s, N, rfl, hh, hG, hg, ⟨a1, a2, v3, hst, hsh, hwy, hkn⟩, hf, ho, hN, h1, hls, hlw, q⟩ := h
  obtain ⟨sh, wy, kn⟩ := s
  refine ⟨_, (pss_cons (ps_set (i := 4) sc_gone_on.nd rfl (Or.inl rfl) (pe_lst pa_nil))
  (pss_cons (ps_asg (pe_call G_come (hr.mono (by first | decide | omega)) (by rfl) D_come.m D_come.F.kp D_come.b .nil pass0 (pa_cons (pv 0) (pa_cons (pe_ix ix_tup (pv 2) pe_int (fun _ _ => rfl)) (pa_cons (pe_ix ix_tup (pv 2) pe_int (fun _ _ => rfl)) (pa_cons (pv 4) pa_nil))))) (pg_tup rfl (pgs_cons (pg_name (i := 5) sc_gone_on.nd rfl (Or.inl rfl)) (pgs_cons (pg_name (i := 6) sc_gone_on.nd rfl (Or.inl rfl)) pgs_nil))))
  (pss_cons (ps_asg (pe_call G_asked (hr.mono (by first | decide | omega)) (by rfl) D_asked.m D_asked.F.kp D_asked.b .nil pass0 (pa_cons (pv 0) (pa_cons (pv 5) (pa_cons (pv 6) (pa_cons (pv 3) (pa_cons (pv 4) pa_nil)))))) (pg_tup rfl (pgs_cons (pg_name (i := 5) sc_gone_on.nd rfl (Or.inl rfl)) (pgs_cons (pg_name (i := 6) sc_gone_on.nd rfl (Or.inl rfl)) pgs_nil))))
  (pss_cons (ps_asg (pe_call G_stepped (hr.mono (by first | decide | omega)) (by rfl) D_stepped.m D_stepped.F.kp D_stepped.b .nil pass0 (pa_cons (pv 1) (pa_cons (pe_ix ix_tup (pv 2) pe_int (fun _ _ => rfl)) (pa_cons (pv 3) pa_nil)))) (pg_tup rfl (pgs_cons (pg_name (i := 7) sc_gone_on.nd rfl (Or.inl rfl)) (pgs_cons (pg_name (i := 8) sc_gone_on.nd rfl (Or.inl rfl)) pgs_nil))))
  (pss_cons (ps_set (i := 6) sc_gone_on.nd rfl (Or.inl rfl) (pe_call G_started (hr.mono (by first | decide | omega)) (by rfl) D_started.m D_started.F.kp D_started.b .nil pass0 (pa_cons (pv 0) (pa_cons (pv 5) (pa_cons (pv 6) (pa_cons (pv 8) (pa_cons (pv 4) pa_nil)))))))
  (pss_one (ps_ret (pe_tup (pa_cons (pe_tup (pa_cons (pv 5) (pa_cons (pe_callTy call_tuple_of (by rfl) T.n_tuple (by decide +kernel) (pa_cons (pv 6) pa_nil)) (pa_cons (pv 7) pa_nil)))) (pa_cons (pv 4) pa_nil)))))))))), ?_⟩
  and_intros
  intro ev nev
  have he0 : IsEv K (upd H ev (.lst [])) ev [] := ⟨[], upd_same, .nil⟩
  have s0 : Same H (upd H ev (.lst [])) := same_upd nev
  have hst0 := same_t s0 hst
  have hsh0 := hsh.imm (Imm.same s0)
  have hwy0 := hwy.imm (Imm.same s0)
  have hh0 := hh.same s0
  generalize upd H ev (.lst []) = H0 at he0 s0 hst0 hsh0 hwy0 hh0 ⊢
  and_intros
  refine ⟨h, a1, a2, ev, pl, rm, lt, ms, sh, wy, rfl, hh0, hsh0, hwy0, he0, h1, hls, hlw, fun q1 b1 b2 H1 sX1 n1 n1e hq1 i1 i2 i3 => ?_⟩
  have s1 := sameX_same s0 sX1 nev
  have clw := comeP_len rm sh wy wy.length
  rw [List.take_length] at clw
  refine ⟨q1, _, rfl, hq1, rfl, _, _, rfl, _, _, rfl, rfl, ?_⟩
  and_intros
  have clw' : (comeP rm sh wy).1.length ≤ sh.length + wy.length ∧ (comeP rm sh wy).2.1.length ≤ wy.length ∧ (comeP rm sh wy).2.2.length ≤ 2 * wy.length := clw
  have q' : GoneQ K H Q (((askedP rm (comeP rm sh wy).1 (comeP rm sh wy).2.1 p).1, (startedP pl lt ms (askedP rm (comeP rm sh wy).1 (comeP rm sh wy).2.1 p).1 (askedP rm (comeP rm sh wy).1 (comeP rm sh wy).2.1 p).2.1 (stepG g kn p).2).1, (stepG g kn p).1),
   (comeP rm sh wy).2.2 ++ (askedP rm (comeP rm sh wy).1 (comeP rm sh wy).2.1 p).2.2 ++ (startedP pl lt ms (askedP rm (comeP rm sh wy).1 (comeP rm sh wy).2.1 p).1 (askedP rm (comeP rm sh wy).1 (comeP rm sh wy).2.1 p).2.1 (stepG g kn p).2).2) := q
  have hls : sh.length ≤ 100 := hls
  have hlw : wy.length ≤ 100 := hlw
  generalize comeP rm sh wy = c at i1 i2 i3 clw' q'
  obtain ⟨csh, cwy, ces⟩ := c
  have al := askedP_len rm csh cwy p
  have cl1 : csh.length ≤ sh.length + wy.length := clw'.1
  have cl2 : cwy.length ≤ wy.length := clw'.2.1
  have cl3 : ces.length ≤ 2 * wy.length := clw'.2.2
  refine ⟨h, b1, b2, ev, pl, rm, lt, ms, p, csh, cwy, ces, rfl, hh.same s1, i1, i2, n1e, i3, h1, by omega, by omega, by omega, fun q2 b3 b4 H2 sX2 n2e b4o hq2 j1 j2 j3 => ?_⟩
  have s2 := sameX_same s1 sX2 nev
  refine ⟨q2, _, rfl, hq2, rfl, _, _, rfl, _, _, rfl, rfl, ?_⟩
  have q'' : GoneQ K H Q (((askedP rm csh cwy p).1, (startedP pl lt ms (askedP rm csh cwy p).1 (askedP rm csh cwy p).2.1 (stepG g kn p).2).1, (stepG g kn p).1),
   ces ++ (askedP rm csh cwy p).2.2 ++ (startedP pl lt ms (askedP rm csh cwy p).1 (askedP rm csh cwy p).2.1 (stepG g kn p).2).2) := q'
  generalize askedP rm csh cwy p = d at j1 j2 j3 al q''
  obtain ⟨dsh, dwy, des⟩ := d
  have al1 : dsh.length ≤ csh.length + 1 := al.1
  have al2 : dwy.length ≤ cwy.length := al.2.1
  have al3 : des.length ≤ 2 := al.2.2
  have hst2 := same_t s2 hst
  and_intros
  refine ⟨v, v3, g, kn, p, 3, N, rfl, hG.same s2, hkn.same s2, hg, by omega, by omega, hf, ho, hN, fun q3 gl v4 H3 s3 n3 k1 k2 k3 => ?_⟩
  have s23 := s2.trans s3
  refine ⟨q3, _, rfl, sqt k3, rfl, _, _, rfl, _, _, rfl, rfl, ?_⟩
  have gl24 := stepG_len (p := p) hg hf ho
  have q3' : GoneQ K H Q ((dsh, (startedP pl lt ms dsh dwy (stepG g kn p).2).1, (stepG g kn p).1), ces ++ des ++ (startedP pl lt ms dsh dwy (stepG g kn p).2).2) := q''
  generalize (stepG g kn p).2 = gs at k2 gl24 q3'
  generalize (stepG g kn p).1 = kn' at k1 q3'
  have nge : gl ≠ ev := (ne_of_none j3.at_.choose_spec n3).symm
  and_intros
  refine ⟨h, b3, b4, gl, ev, pl, rm, lt, ms, dsh, dwy, gs, ces ++ des, rfl, hh.same s23, j1.imm (Imm.same s3), j2.same s3, nge, k2, j3.same s3, by omega, by omega, by omega, by rw [List.length_append]; omega, fun b5 H4 sX4 n5 n5e m1 m2 => ?_⟩
  have s4 := sameX_same s23 sX4 nev
  have l3 := (j3.same s3).at_
  have j14 := (j1.imm (Imm.same s3)).imm (Imm.sameX sX4 l3)
  have k14 := k1.imm (Imm.sameX sX4 l3)
  have stl := startedP_len pl lt ms dsh dwy gs gs.length
  obtain ⟨cs, c1, c2⟩ := m1
  and_intros
  refine ⟨_, _, rfl, .inl ⟨sql c1, fun t nt => ?_⟩⟩
  and_intros
  intro p6 n6
  and_intros
  intro p7 n7
  have s47 : Same H4 (upd (upd (upd H4 t (.tup (cs.map V.ref))) p6 (.tup [.ref b3, .ref t, v4])) p7 (.tup [.ref p6, .ref ev])) := ((same_upd nt).trans (same_upd n6)).trans (same_upd n7)
  have et : SqT K (upd (upd (upd H4 t (.tup (cs.map V.ref))) p6 (.tup [.ref b3, .ref t, v4])) p7 (.tup [.ref p6, .ref ev])) t (cs.map V.ref) := sqt (same_upd n7 _ _ (same_upd n6 _ _ upd_same))
  have e6 : SqT K (upd (upd (upd H4 t (.tup (cs.map V.ref))) p6 (.tup [.ref b3, .ref t, v4])) p7 (.tup [.ref p6, .ref ev])) p6 [.ref b3, .ref t, v4] := sqt (same_upd n7 _ _ upd_same)
  exact q3' p7 p6 ev _ (s4.trans s47) nev upd_same ⟨b3, t, v4, e6, j14.imm (Imm.same s47), ⟨cs, et, c2.imm (Imm.same s47)⟩, k14.same s47⟩ (m2.same s47)
def spBegun (K : PySem.W.Frag) : Sp := fun vs H Q _ => ∃ (v : V) (g : G), vs = [v] ∧ IsG K H g v ∧ good 3 g = true ∧ ∀ (a : Addr) H', Same H H' → IsSt K H' a ([], [], first0 g) → Q (.ref a) H'
theorem ok_begun (T : Nms mg) (D_first_state : Df K mg "first_state" s_first_state p_first_state f1 fd1) (F : Fun K "begun" "begun" s_begun f fd) : FnOk P w K mg base CX0 5 f fd p_begun (spBegun K) := by
  have G_first_state : FnOk P w K mg base CX0 4 f1 fd1 p_first_state (spFirst K 4) := ok_first_state T D_first_state 4
  refine F.ok sc_begun (fun vs H Q E h => ?_) (fun cdv A outer s H vs Q E hr h => ?_)
  · obtain ⟨v, g, rfl, _⟩ := h
    rfl
  obtain ⟨v, g, rfl, hG, hg, q⟩ := h
  refine ⟨_, (pss_one (ps_ret (pe_tup (pa_cons (pe_tup pa_nil) (pa_cons (pe_tup pa_nil) (pa_cons (pe_call G_first_state (hr.mono (by first | decide | omega)) (by rfl) D_first_state.m D_first_state.F.kp D_first_state.b .nil pass0 (pa_cons (pv 0) pa_nil)) pa_nil)))))), ?_⟩
  and_intros
  intro p1 n1
  and_intros
  intro p2 n2
  and_intros
  have s2 : Same H (upd (upd H p1 (.tup [])) p2 (.tup [])) := (same_upd n1).trans (same_upd n2)
  refine ⟨v, g, 3, rfl, hG.same s2, hg, by omega, by omega, fun v3 H3 s3 i3 => ?_⟩
  and_intros
  intro p4 n4
  have e1 : SqT K (upd H3 p4 (.tup [.ref p1, .ref p2, v3])) p1 [] := sqt (same_upd n4 _ _ (s3 _ _ (same_upd n2 _ _ upd_same)))
  have e2 : SqT K (upd H3 p4 (.tup [.ref p1, .ref p2, v3])) p2 [] := sqt (same_upd n4 _ _ (s3 _ _ upd_same))
  exact q p4 _ ((s2.trans s3).trans (same_upd n4)) ⟨p1, p2, v3, sqt upd_same, ⟨[], e1, .nil⟩, ⟨[], e2, .nil⟩, i3.same (same_upd n4)⟩
end
end St

namespace St
open PySem PySem.Spec PyProof.Rows L2
/-! ### what the shelves keep -/
def ks {β : Type} (l : List (Int × β)) : List Int := l.map (·.1)
def isOut (w : Str) : Prop := w = "leave" ∨ w = "waste"
def isIn (w : Str) : Prop := w = "come" ∨ w = "late" ∨ w = "miss"
instance (w : Str) : Decidable (isOut w) := inferInstanceAs (Decidable (_ ∨ _))
instance (w : Str) : Decidable (isIn w) := inferInstanceAs (Decidable (_ ∨ _))
/-- the events turn the places that lie there from A to B -/
def Ch (pl : Int) : (Int → Prop) → Evs → (Int → Prop) → Prop
  | A, [], B => ∀ q, A q ↔ B q
  | A, (w, p) :: es, B => (0 ≤ p ∧ p < pl) ∧ if isOut w then A p ∧ Ch pl (fun q => A q ∧ q ≠ p) es B else if isIn w then Ch pl (fun q => A q ∨ q = p) es B else Ch pl A es B
theorem Ch.app {pl : Int} : ∀ {es fs : Evs} {A B C : Int → Prop}, Ch pl A es B → Ch pl B fs C → Ch pl A (es ++ fs) C
  | [], fs, A, B, C, h, g => by
    have e : A = B := funext fun q => propext (h q)
    subst e
    exact g
  | (w, p) :: es, fs, A, B, C, h, g => by
    show _ ∧ _
    refine ⟨h.1, ?_⟩
    have h2 := h.2
    by_cases c1 : isOut w
    · rw [if_pos c1] at h2 ⊢
      exact ⟨h2.1, Ch.app h2.2 g⟩
    · rw [if_neg c1] at h2 ⊢
      by_cases c2 : isIn w
      · rw [if_pos c2] at h2 ⊢
        exact Ch.app h2 g
      · rw [if_neg c2] at h2 ⊢
        exact Ch.app h2 g
theorem Ch.iff {pl : Int} {es : Evs} {A B C : Int → Prop} (h : Ch pl A es B) (e : ∀ q, B q ↔ C q) : Ch pl A es C := by
  have e : B = C := funext fun q => propext (e q)
  subst e
  exact h
theorem laid_inv {pl rm : Int} {sh : Shelf} {p : Int} {w : Bool} {word : Str} {r : List Int} (hw : isIn word) (h1 : 1 ≤ rm) (nd : (ks sh ++ p :: r).Nodup) (hr : ∀ q ∈ ks sh ++ p :: r, 0 ≤ q ∧ q < pl) :
    (ks (laidP rm sh p w).1 ++ r).Nodup ∧ (∀ q ∈ ks (laidP rm sh p w).1 ++ r, 0 ≤ q ∧ q < pl) ∧ Ch pl (· ∈ ks sh) ((laidP rm sh p w).2 ++ [(word, p)]) (· ∈ ks (laidP rm sh p w).1) := by
  have nOut : ¬ isOut word := by
    rcases hw with rfl | rfl | rfl <;> decide
  have hp := hr p (by simp)
  unfold laidP
  split
  · cases sh with
    | nil =>
      refine ⟨nd, hr, hp, ?_⟩
      rw [if_neg nOut, if_pos hw]
      intro q
      simp [ks]
    | cons e t =>
      have e0 : ks (t ++ [(p, w)]) ++ r = ks t ++ p :: r := by simp [ks]
      have nd' : (e.1 :: (ks t ++ p :: r)).Nodup := nd
      rw [List.nodup_cons] at nd'
      refine ⟨by rw [e0]; exact nd'.2, by rw [e0]; exact fun q hq => hr q (List.mem_cons_of_mem _ hq), hr e.1 (List.mem_cons_self ..), ?_⟩
      have o : isOut (if e.2 then "waste" else "leave" : Str) := by split <;> decide
      rw [if_pos o]
      refine ⟨List.mem_cons_self .., hp, ?_⟩
      rw [if_neg nOut, if_pos hw]
      intro q
      have hne : e.1 ∉ ks t := fun z => nd'.1 (List.mem_append_left _ z)
      have z1 : q ∈ ks (e :: t) ↔ q = e.1 ∨ q ∈ ks t := by simp [ks]
      have z2 : q ∈ ks (t ++ [(p, w)]) ↔ q ∈ ks t ∨ q = p := by simp [ks]
      show (q ∈ ks (e :: t) ∧ q ≠ e.1) ∨ q = p ↔ q ∈ ks (t ++ [(p, w)])
      rw [z1, z2]
      constructor
      · rintro (⟨h | h, n⟩ | h)
        · exact absurd h n
        · exact .inl h
        · exact .inr h
      · rintro (h | h)
        · exact .inl ⟨.inr h, fun z => hne (z ▸ h)⟩
        · exact .inr h
  · have e0 : ks (sh ++ [(p, w)]) ++ r = ks sh ++ p :: r := by simp [ks]
    refine ⟨by rw [e0]; exact nd, by rw [e0]; exact hr, hp, ?_⟩
    rw [if_neg nOut, if_pos hw]
    intro q
    show q ∈ ks sh ∨ q = p ↔ _
    simp [ks]
def CI (pl rm : Int) (A : Int → Prop) (n : Nat) (s : Shelf × Way × Evs) : Prop := (ks s.1 ++ ks s.2.1).Nodup ∧ (∀ q ∈ ks s.1 ++ ks s.2.1, 0 ≤ q ∧ q < pl) ∧ ((s.1.length : Nat) : Int) ≤ rm ∧ Ch pl A s.2.2 (· ∈ ks s.1) ∧ s.2.1.length ≤ n
def AI (pl rm : Int) (A : Int → Prop) (p : Int) (a : Shelf × Way × Evs) : Prop := (ks a.1 ++ ks a.2.1).Nodup ∧ (∀ q ∈ ks a.1 ++ ks a.2.1, 0 ≤ q ∧ q < pl) ∧ ((a.1.length : Nat) : Int) ≤ rm ∧ Ch pl A a.2.2 (· ∈ ks a.1) ∧ p ∈ ks a.1 ∧ p ∉ ks a.2.1
def SI (pl ms : Int) (sh : Shelf) (s : Way × Evs) : Prop := (ks sh ++ ks s.1).Nodup ∧ (∀ q ∈ ks sh ++ ks s.1, 0 ≤ q ∧ q < pl) ∧ ((s.1.length : Nat) : Int) ≤ ms ∧ Ch pl (· ∈ ks sh) s.2 (· ∈ ks sh)
theorem come_inv {pl rm : Int} {A : Int → Prop} (h1 : 1 ≤ rm) : ∀ (wy : Way) (sh : Shelf) (left : Way) (evs : Evs), (ks sh ++ (ks left ++ ks wy)).Nodup → (∀ q ∈ ks sh ++ (ks left ++ ks wy), 0 ≤ q ∧ q < pl) → ((sh.length : Nat) : Int) ≤ rm → Ch pl A evs (· ∈ ks sh) → CI pl rm A (left.length + wy.length) (wy.foldl (comeS rm) (sh, left, evs))
  | [], sh, left, evs, nd, hr, hl, hc => by
    have e : ks left ++ ks ([] : Way) = ks left := by simp [ks]
    rw [e] at nd hr
    exact ⟨nd, hr, hl, hc, Nat.le_refl _⟩
  | (p, t) :: wy, sh, left, evs, nd, hr, hl, hc => by
    show CI _ _ _ _ (wy.foldl (comeS rm) (comeS rm (sh, left, evs) (p, t)))
    have e1 : ks ((p, t) :: wy) = p :: ks wy := rfl
    rw [e1] at nd hr
    by_cases c : t = 0
    · have e2 : comeS rm (sh, left, evs) (p, t) = ((laidP rm sh p true).1, left, evs ++ (laidP rm sh p true).2 ++ [(("come" : Str), p)]) := if_pos c
      rw [e2]
      have pm : (ks sh ++ (ks left ++ p :: ks wy)).Perm (ks sh ++ p :: (ks left ++ ks wy)) := List.Perm.append_left _ List.perm_middle
      obtain ⟨l1, l2, l3⟩ := laid_inv (pl := pl) (w := true) (word := "come") (.inl rfl) h1 (pm.nodup_iff.mp nd) (fun q hq => hr q (pm.mem_iff.mpr hq))
      obtain ⟨i1, i2, i3, i4, i5⟩ := come_inv (A := A) h1 wy _ left (evs ++ (laidP rm sh p true).2 ++ [(("come" : Str), p)]) l1 l2 (laidP_room h1 hl) (by rw [List.append_assoc]; exact hc.app l3)
      exact ⟨i1, i2, i3, i4, Nat.le_trans i5 (by first | (simp; done) | (simp; omega))⟩
    · have e2 : comeS rm (sh, left, evs) (p, t) = (sh, left ++ [(p, t - 1)], evs) := if_neg c
      rw [e2]
      have e3 : ks (left ++ [(p, t - 1)]) ++ ks wy = ks left ++ p :: ks wy := by simp [ks]
      obtain ⟨i1, i2, i3, i4, i5⟩ := come_inv (A := A) h1 wy sh (left ++ [(p, t - 1)]) evs (by rw [e3]; exact nd) (by rw [e3]; exact hr) hl hc
      exact ⟨i1, i2, i3, i4, Nat.le_trans i5 (by first | (simp; done) | (simp; omega))⟩
theorem hit_perm {sh : Shelf} {e : Int × Bool} {p : Int} (nd : (ks sh).Nodup) (he : e ∈ sh) (ep : e.1 = p) : (ks (sh.filter (fun o => decide (o ≠ e)) ++ [(p, false)])).Perm (ks sh) := by
  have nd' : sh.Nodup := List.Pairwise.of_map (S := (· ≠ ·)) (f := (·.1)) (fun a b h e => h (congrArg _ e)) nd
  have e1 : sh.filter (fun o => decide (o ≠ e)) = sh.erase e := by
    rw [List.Nodup.erase_eq_filter nd']
    refine List.filter_congr fun x _ => ?_
    by_cases c : x = e
    · simp [c]
    · simp [c]
  rw [e1]
  have pm : sh.Perm (e :: sh.erase e) := List.perm_cons_erase he
  have z : (ks sh).Perm (ks (e :: sh.erase e)) := pm.map _
  refine List.Perm.trans ?_ z.symm
  show (ks (sh.erase e ++ [(p, false)])).Perm (e.1 :: ks (sh.erase e))
  rw [ep]
  have : ks (sh.erase e ++ [(p, false)]) = ks (sh.erase e) ++ [p] := by simp [ks]
  rw [this]
  exact List.perm_append_comm (l₁ := ks (sh.erase e)) (l₂ := [p])
theorem find_ks {sh : Shelf} {p : Int} {e : Int × Bool} (h : sh.find? (fun e => decide (e.1 = p)) = some e) : e ∈ sh ∧ e.1 = p := ⟨List.mem_of_find?_eq_some h, by have := List.find?_some h; exact of_decide_eq_true this⟩
theorem asked_inv {pl rm : Int} {sh : Shelf} {wy : Way} {p : Int} (h1 : 1 ≤ rm) (nd : (ks sh ++ ks wy).Nodup) (hr : ∀ q ∈ ks sh ++ ks wy, 0 ≤ q ∧ q < pl) (hl : ((sh.length : Nat) : Int) ≤ rm) (hp : 0 ≤ p ∧ p < pl) : AI pl rm (· ∈ ks sh) p (askedP rm sh wy p) := by
  unfold askedP
  cases e : sh.find? (fun e => decide (e.1 = p)) with
  | some x =>
    obtain ⟨hx, xp⟩ := find_ks e
    have pm := hit_perm (List.nodup_append.mp nd).1 hx xp
    have pmw : (ks (sh.filter (fun o => decide (o ≠ x)) ++ [(p, false)]) ++ ks wy).Perm (ks sh ++ ks wy) := pm.append_right _
    have hpk : p ∈ ks sh := List.mem_map.mpr ⟨x, hx, xp⟩
    refine ⟨pmw.nodup_iff.mpr nd, fun q hq => hr q (pmw.mem_iff.mp hq), ?_, ⟨hp, ?_⟩, pm.mem_iff.mpr hpk, fun z => (List.nodup_append.mp nd).2.2 p hpk p z rfl⟩
    · have : (sh.filter (fun o => decide (o ≠ x)) ++ [(p, false)]).length = sh.length := by
        have := pm.length_eq
        unfold ks at this
        rw [List.length_map, List.length_map] at this
        exact this
      show (((sh.filter (fun o => decide (o ≠ x)) ++ [(p, false)]).length : Nat) : Int) ≤ rm
      rw [this]
      exact hl
    · have n1 : ¬ isOut (if x.2 then "first" else "hit" : Str) := by split <;> decide
      have n2 : ¬ isIn (if x.2 then "first" else "hit" : Str) := by split <;> decide
      rw [if_neg n1, if_neg n2]
      exact fun q => pm.mem_iff.symm
  | none =>
    have hpn : p ∉ ks sh := fun z => by
      obtain ⟨y, hy, ey⟩ := List.mem_map.mp z
      have := List.find?_eq_none.mp e y hy
      simp at this
      exact this ey
    have hw : isIn (if (wy.filter fun e => decide (e.1 ≠ p)).length = wy.length then "miss" else "late" : Str) := by split <;> decide
    have sub : (ks (wy.filter fun e => decide (e.1 ≠ p))).Sublist (ks wy) := List.filter_sublist.map _
    have hpw : p ∉ ks (wy.filter fun e => decide (e.1 ≠ p)) := fun z => by
      obtain ⟨y, hy, ey⟩ := List.mem_map.mp z
      have := (List.mem_filter.mp hy).2
      simp at this
      exact this ey
    have ndp : (ks sh ++ p :: ks (wy.filter fun e => decide (e.1 ≠ p))).Nodup := by
      rw [List.nodup_append] at nd ⊢
      refine ⟨nd.1, List.nodup_cons.mpr ⟨hpw, nd.2.1.sublist sub⟩, fun a ha b hb => ?_⟩
      rcases List.mem_cons.mp hb with rfl | hb
      · exact fun z => hpn (z ▸ ha)
      · exact nd.2.2 a ha b (sub.subset hb)
    have hrp : ∀ q ∈ ks sh ++ p :: ks (wy.filter fun e => decide (e.1 ≠ p)), 0 ≤ q ∧ q < pl := fun q hq => by
      rcases List.mem_append.mp hq with hq | hq
      · exact hr q (List.mem_append_left _ hq)
      · rcases List.mem_cons.mp hq with rfl | hq
        · exact hp
        · exact hr q (List.mem_append_right _ (sub.subset hq))
    obtain ⟨l1, l2, l3⟩ := laid_inv (pl := pl) (w := false) hw h1 ndp hrp
    refine ⟨l1, l2, laidP_room h1 hl, l3, ?_, hpw⟩
    show p ∈ ks (laidP rm sh p false).1
    unfold laidP
    split
    · cases sh with
      | nil => exact List.mem_cons_self ..
      | cons e t =>
        show p ∈ ks (t ++ [(p, false)])
        simp [ks]
    · show p ∈ ks (sh ++ [(p, false)])
      simp [ks]
theorem started_inv {pl lt ms : Int} {sh : Shelf} : ∀ (gs : List Int) (wy : Way) (evs : Evs), (ks sh ++ ks wy).Nodup → (∀ q ∈ ks sh ++ ks wy, 0 ≤ q ∧ q < pl) → ((wy.length : Nat) : Int) ≤ ms → Ch pl (· ∈ ks sh) evs (· ∈ ks sh) → SI pl ms sh (gs.foldl (startS pl lt ms sh) (wy, evs))
  | [], wy, evs, nd, hr, hl, hc => ⟨nd, hr, hl, hc⟩
  | g :: gs, wy, evs, nd, hr, hl, hc => by
    show SI _ _ _ (gs.foldl (startS pl lt ms sh) (startS pl lt ms sh (wy, evs) g))
    by_cases c : (0 ≤ g ∧ g < pl) ∧ g ∉ sh.map (·.1) ++ wy.map (·.1) ∧ ((wy.length : Nat) : Int) < ms
    · have e : startS pl lt ms sh (wy, evs) g = (wy ++ [(g, lt)], evs ++ [(("start" : Str), g)]) := if_pos c
      rw [e]
      have ek : ks sh ++ ks (wy ++ [(g, lt)]) = ks sh ++ ks wy ++ [g] := by simp [ks]
      refine started_inv gs _ _ ?_ ?_ ?_ (hc.app ⟨c.1, ?_⟩)
      · rw [ek, List.nodup_append]
        exact ⟨nd, by simp, fun a ha b hb => by rw [List.mem_singleton.mp hb]; exact fun z => c.2.1 (z ▸ ha)⟩
      · rw [ek]
        intro q hq
        rcases List.mem_append.mp hq with hq | hq
        · exact hr q hq
        · rw [List.mem_singleton.mp hq]
          exact c.1
      · rw [List.length_append]
        show ((wy.length + 1 : Nat) : Int) ≤ ms
        have := c.2.2
        omega
      · rw [if_neg (by decide), if_neg (by decide)]
        exact fun q => Iff.rfl
    · have e : startS pl lt ms sh (wy, evs) g = (wy, evs) := if_neg c
      rw [e]
      exact started_inv gs wy evs nd hr hl hc
/-- what holds of a state -/
structure InvS (pl rm ms : Int) (sh : Shelf) (wy : Way) : Prop where
  nd : (ks sh ++ ks wy).Nodup
  rg : ∀ q ∈ ks sh ++ ks wy, 0 ≤ q ∧ q < pl
  l1 : ((sh.length : Nat) : Int) ≤ rm
  l2 : ((wy.length : Nat) : Int) ≤ ms
theorem gone_inv {pl rm lt ms : Int} {g : G} {s : RSt} {p : Int} (h1 : 1 ≤ rm) (I : InvS pl rm ms s.1 s.2.1) (hp : 0 ≤ p ∧ p < pl) :
    InvS pl rm ms (goneP pl rm lt ms g s p).1.1 (goneP pl rm lt ms g s p).1.2.1 ∧ Ch pl (· ∈ ks s.1) (goneP pl rm lt ms g s p).2 (· ∈ ks (goneP pl rm lt ms g s p).1.1) ∧ p ∈ ks (goneP pl rm lt ms g s p).1.1 := by
  obtain ⟨sh, wy, kn⟩ := s
  obtain ⟨c1, c2, c3, c4, c5⟩ := come_inv (A := (· ∈ ks sh)) h1 wy sh [] [] I.nd I.rg I.l1 (fun q => Iff.rfl)
  have c5 : (wy.foldl (comeS rm) (sh, [], [])).2.1.length ≤ wy.length := by
    have : ([] : Way).length + wy.length = wy.length := by simp
    rw [this] at c5
    exact c5
  obtain ⟨a1, a2, a3, a4, a5, a6⟩ := asked_inv (p := p) h1 c1 c2 c3 hp
  have a7 := (askedP_len rm (wy.foldl (comeS rm) (sh, [], [])).1 (wy.foldl (comeS rm) (sh, [], [])).2.1 p).2.1
  have l2 := I.l2
  have l2 : ((wy.length : Nat) : Int) ≤ ms := l2
  obtain ⟨s1, s2, s3, s4⟩ := started_inv (lt := lt) (ms := ms) (stepG g kn p).2 _ [] a1 a2 (by omega) (fun q => Iff.rfl)
  exact ⟨⟨s1, s2, a3, s3⟩, (c4.app a4).app s4, a5⟩
end St

namespace St
open PySem PySem.Spec PyProof.Rows L2
abbrev s_need_setting : Stmt := topS 21
abbrev N_need_setting : List Str := ["setting", "memory", "room", "late", "most", "one"]
abbrev p_need_setting : List Str := ["setting"]
theorem sc_need_setting : FnScope N_need_setting p_need_setting (defScope s_need_setting) := ⟨rfl, rfl, rfl, by decide +kernel, rfl, by decide +kernel, by decide +kernel⟩
abbrev s_House___init__ : Stmt := inClass (topS 23) 0
abbrev N_House___init__ : List Str := ["self", "setting", "memory", "room", "late", "most"]
abbrev p_House___init__ : List Str := ["self", "setting"]
theorem sc_House___init__ : FnScope N_House___init__ p_House___init__ (defScope s_House___init__) := ⟨rfl, rfl, rfl, by decide +kernel, rfl, by decide +kernel, by decide +kernel⟩
/-- the program's numbers -/
structure Cns (mg : Str → Option Value) : Prop where
  MOST_PLACES : ∃ t, mg "MOST_PLACES" = some (.int 32 t)
  MOST_NUMBER : ∃ t, mg "MOST_NUMBER" = some (.int 99 t)
  MOST_ROOM : ∃ t, mg "MOST_ROOM" = some (.int 8 t)
  MOST_LATE : ∃ t, mg "MOST_LATE" = some (.int 4 t)
  MOST_WAY : ∃ t, mg "MOST_WAY" = some (.int 4 t)
/-- a class with its __init__ -/
structure ClassD (K : PySem.W.Frag) (mg : Str → Option Value) (x : Str) (C fI : Addr) : Prop where
  g : mg x = some (.ref C)
  M : Mk K C fI
  cl : Cls K C
structure Mf (K : PySem.W.Frag) (C : Addr) (x q : Str) (st : Stmt) (ps : List Str) (f : Addr) (fd : FuncData) : Prop where
  F : Fun K x q st f fd
  b : Binds K fd ps []
  m : Meth K C x f
/-- a setting: memory, room, late, most -/
structure Stg where
  mem : List Int
  rm : Int
  lt : Int
  ms : Int
structure Stg.Good (s : Stg) : Prop where
  m1 : 1 ≤ s.mem.length
  m2 : s.mem.length ≤ 32
  m3 : ∀ x ∈ s.mem, 0 ≤ x ∧ x ≤ 99
  r1 : 1 ≤ s.rm
  r2 : s.rm ≤ 8
  l1 : 0 ≤ s.lt
  l2 : s.lt ≤ 4
  w1 : 1 ≤ s.ms
  w2 : s.ms ≤ 4
def IsSet (K : PySem.W.Frag) (H : Hp) (a : Addr) (s : Stg) : Prop := ∃ m, SqT K H a [.ref m, .int s.rm, .int s.lt, .int s.ms] ∧ SqT K H m (s.mem.map V.int)
theorem IsSet.imm {K : PySem.W.Frag} {H H' : Hp} {a : Addr} {s : Stg} (h : IsSet K H a s) (e : Imm H H') : IsSet K H' a s := by
  obtain ⟨m, h1, h2⟩ := h
  exact ⟨m, e.t h1, e.t h2⟩
/-- a deed: read, or write what -/
abbrev Deed := Int × Option Int
def IsDeed (K : PySem.W.Frag) (H : Hp) (a : Addr) : Deed → Prop
  | (p, none) => SqT K H a [.str "read", .int p]
  | (p, some v) => SqT K H a [.str "write", .int p, .int v]
theorem IsDeed.imm {K : PySem.W.Frag} {H H' : Hp} {a : Addr} : ∀ {d : Deed}, IsDeed K H a d → Imm H H' → IsDeed K H' a d
  | (_, none), h, e => Imm.t e h
  | (_, some _), h, e => Imm.t e h
def Deed.Good (pl : Int) : Deed → Prop
  | (p, none) => 0 ≤ p ∧ p < pl
  | (p, some v) => (0 ≤ p ∧ p < pl) ∧ 0 ≤ v ∧ v ≤ 99
def PrD (K : PySem.W.Frag) (H : Hp) (as : List Addr) (ds : List Deed) : Prop := Paired (fun (p : Addr) (d : Deed) => IsDeed K H p d) as ds
theorem PrD.imm {K : PySem.W.Frag} {H H' : Hp} {as : List Addr} {ds : List Deed} (h : PrD K H as ds) (e : Imm H H') : PrD K H' as ds := Paired.mapP h fun _ _ z => z.imm e
section
variable {P : Program} {w : World} {K : PySem.W.Frag} {mg : Str → Option Value} {base : Heap} {f f1 f2 f3 f4 C dS dM : Addr} {fd fd1 fd2 fd3 fd4 : FuncData}
def spNeedSet (K : PySem.W.Frag) : Sp := fun vs H Q _ => ∃ (a : Addr) (s : Stg), vs = [.ref a] ∧ IsSet K H a s ∧ s.Good ∧ ∀ H', Same H H' → Q .non H'
theorem ok_need_setting (T : Nms mg) (Cn : Cns mg) (F : Fun K "need_setting" "need_setting" s_need_setting f fd) : FnOk P w K mg base CX0 1 f fd p_need_setting (spNeedSet K) := by
  refine F.ok sc_need_setting (fun vs H Q E h => ?_) (fun cdv A outer s H vs Q E hr h => ?_)
  · obtain ⟨a, s, rfl, _⟩ := h
    rfl
  obtain ⟨a, s, rfl, ⟨m, h1, h2⟩, g, q⟩ := h
  refine ⟨_, (pss_cons (ps_asg (pv 0) (pg_tup rfl (pgs_cons (pg_name (i := 1) sc_need_setting.nd rfl (Or.inl rfl)) (pgs_cons (pg_name (i := 2) sc_need_setting.nd rfl (Or.inl rfl)) (pgs_cons (pg_name (i := 3) sc_need_setting.nd rfl (Or.inl rfl)) (pgs_cons (pg_name (i := 4) sc_need_setting.nd rfl (Or.inl rfl)) pgs_nil))))))
  (pss_cons (ps_if (PW.pt (pw_or (pt_not (pt_chain op_le op_le pe_int (pe_callB call_len_seq (by rfl) T.n_len (by decide +kernel) (pa_cons (pv 1) pa_nil)) (pe_gint (by rfl) Cn.MOST_PLACES))) (pw_or1 (pt_cmpR (op_neD hr.units) (pe_lc (own := [("one", 5)]) (g := gName 5) rfl sc_need_setting.nd (pi_tup (pv 1)) (blkOk_by (own := [("one", 5)]) (N := N_need_setting) (sc := defScope s_need_setting) (by decide +kernel)) (fun _ _ _ _ _ => pg_name (i := 5) sc_need_setting.nd rfl (Or.inl rfl)) (fun _ _ _ _ _ => pts_one (pt_not (pt_chain op_le op_le pe_int (pv 5) (pe_gint (by rfl) Cn.MOST_NUMBER)))) (fun _ _ _ _ _ => (pv 5))) (pe_lst pa_nil) (nomark _)))))
    (pss_one (ps_never))
    (pss_nil))
  (pss_cons (ps_if (pt_not (pt_chain op_le op_le pe_int (pv 2) (pe_gint (by rfl) Cn.MOST_ROOM)))
    (pss_one (ps_never))
    (pss_nil))
  (pss_cons (ps_if (pt_not (pt_chain op_le op_le pe_int (pv 3) (pe_gint (by rfl) Cn.MOST_LATE)))
    (pss_one (ps_never))
    (pss_nil))
  (pss_one (ps_if (pt_not (pt_chain op_le op_le pe_int (pv 4) (pe_gint (by rfl) Cn.MOST_WAY)))
    (pss_one (ps_never))
    (pss_nil))))))), ?_⟩
  have lm : (s.mem.map V.int).length = s.mem.length := List.length_map _
  have g1 := g.m1
  have g2 := g.m2
  refine ⟨_, rfl, a, _, rfl, h1, rfl, _, _, rfl, _, _, rfl, _, _, rfl, _, _, rfl, rfl, ?_⟩
  and_intros
  refine iteB (decide_eq_true (by rw [lm]; omega)) ?_
  refine ⟨_, _, rfl, rfl, _, rfl, ?_⟩
  rw [decide_eq_true (show (((s.mem.map V.int).length : Nat) : Int) ≤ 32 by rw [lm]; omega)]
  refine iteB0 (b := !true) rfl ?_
  and_intros
  refine ⟨⟨_, h2⟩, fun D nD => ?_⟩
  refine lc_tup (xs := s.mem.map V.int) (fun i H' => Same H H' ∧ H' D = some (.lst [])) ⟨same_upd nD, upd_same⟩ (fun i H' _ h => same_t h.1 h2) (fun i y H' hi h => ?_) (fun H' h => ?_)
  · obtain ⟨x, rfl, ex, _⟩ := at_ints hi
    have gx := g.m3 x (List.mem_of_getElem? ex)
    and_intros
    refine iteB (decide_eq_true gx.1) ?_
    refine ⟨_, _, rfl, rfl, _, rfl, ?_⟩
    rw [decide_eq_true gx.2]
    exact iteB0 (b := !true) rfl h
  · and_intros
    intro L nL
    refine ⟨.list (([] : List Int).map .int), .list (([] : List Int).map .int), dp_ints (sql (same_upd nL _ _ h.2)), dp_ints (sql upd_same), lay_ints [], lay_ints [], ?_⟩
    rw [eqv_ints, decide_eq_true rfl]
    refine ⟨_, rfl, iteB0 (b := !true) rfl ?_⟩
    and_intros
    refine iteB (decide_eq_true g.r1) ?_
    refine ⟨_, _, rfl, rfl, _, rfl, ?_⟩
    rw [decide_eq_true g.r2]
    refine iteB0 (b := !true) rfl ?_
    and_intros
    refine iteB (decide_eq_true g.l1) ?_
    refine ⟨_, _, rfl, rfl, _, rfl, ?_⟩
    rw [decide_eq_true g.l2]
    refine iteB0 (b := !true) rfl ?_
    and_intros
    refine iteB (decide_eq_true g.w1) ?_
    refine ⟨_, _, rfl, rfl, _, rfl, ?_⟩
    rw [decide_eq_true g.w2]
    refine iteB0 (b := !true) rfl ?_
    exact q _ (h.1.trans (same_upd nL))
/-! ### House -/
def spHouse (K : PySem.W.Frag) (C : Addr) : Sp := fun vs H Q _ => ∃ (p a dx : Addr) (s : Stg), vs = [.ref p, .ref a] ∧ H p = some (.ins C dx []) ∧ IsSet K H a s ∧ ∀ H', SameX p H H' → IsH C H' p ((s.mem.length : Nat) : Int) s.rm s.lt s.ms → Q .non H'
theorem ok_House___init__ (T : Nms mg) (HC : HouseC K C) (F : Fun K "__init__" "House.__init__" s_House___init__ f fd) : FnOk P w K mg base CX0 1 f fd p_House___init__ (spHouse K C) := by
  refine F.ok sc_House___init__ (fun vs H Q E h => ?_) (fun cdv A outer s H vs Q E hr h => ?_)
  · obtain ⟨p, a, dx, s, rfl, _⟩ := h
    rfl
  obtain ⟨p, a, dx, s, rfl, hp, ⟨m, h1, h2⟩, q⟩ := h
  refine ⟨_, (pss_cons (ps_asg (pv 1) (pg_tup rfl (pgs_cons (pg_name (i := 2) sc_House___init__.nd rfl (Or.inl rfl)) (pgs_cons (pg_name (i := 3) sc_House___init__.nd rfl (Or.inl rfl)) (pgs_cons (pg_name (i := 4) sc_House___init__.nd rfl (Or.inl rfl)) (pgs_cons (pg_name (i := 5) sc_House___init__.nd rfl (Or.inl rfl)) pgs_nil))))))
  (pss_cons (ps_fld (pv 0) (pe_callB call_len_seq (by rfl) T.n_len (by decide +kernel) (pa_cons (pv 2) pa_nil)) rfl)
  (pss_cons (ps_fld (pv 0) (pv 3) rfl)
  (pss_cons (ps_fld (pv 0) (pv 4) rfl)
  (pss_one (ps_fld (pv 0) (pv 5) rfl)))))), ?_⟩
  refine ⟨_, rfl, a, _, rfl, h1, rfl, _, _, rfl, _, _, rfl, _, _, rfl, _, _, rfl, rfl, ?_⟩
  and_intros
  refine ⟨p, C, dx, [], rfl, hp, HC.cl, HC.places, (by show 0 < 1000; decide), ?_⟩
  refine ⟨_, rfl, _, rfl, p, C, dx, _, rfl, upd_same, HC.cl, HC.room, (by show 1 < 1000; decide), ?_⟩
  refine ⟨_, rfl, _, rfl, p, C, dx, _, rfl, upd_same, HC.cl, HC.late, (by show 2 < 1000; decide), ?_⟩
  refine ⟨_, rfl, _, rfl, p, C, dx, _, rfl, upd_same, HC.cl, HC.most, (by show 3 < 1000; decide), ?_⟩
  refine q _ (((SameX.upd.trans SameX.upd).trans SameX.upd).trans SameX.upd) ⟨dx, ?_⟩
  rw [upd_same, List.length_map]
  rfl
end
end St

namespace St
open PySem PySem.Spec PyProof.Rows L2
/-! ### o.f = one of several: as it stands in a tuple of targets -/
def gFld (K : PySem.W.Frag) (ta : TE) (f : Str) : TG := fun v σ H Q => ta σ H fun x H1 => ∃ a C dx fs, x = .ref a ∧ H1 a = some (.ins C dx fs) ∧ Cls K C ∧ NoAttr K C f ∧ fs.length < 1000 ∧ Q σ (upd H1 a (.ins C dx (putF f v fs)))
theorem pg_fld {X : Cx} {o : Expr} {f : Str} {pos : Pos} {ta : TE} (ho : PE X o ta)
    (ha : ∀ v, assign (.Attribute o f pos) X.env v = (do
      let ov ← holding [v] (eval o X.env)
      standAt pos.atName
      holding [v, ov] (setAttr ov f v)
      release [v, ov] []) := by intro _; rfl) : PG X (.Attribute o f pos) (gFld X.K ta f) := by
  refine ⟨fun pins s σ H v u Q I r h => ?_⟩
  rw [ha]
  refine wpAny_bind (wpAny_holding (thn (ho.run pins s σ H _ I h) fun ov s1 ⟨x, H1, I1, r1, a, C, dx, fs, ex, ea, c, n, l, q⟩ => ?_))
  subst ex
  obtain rfl : ov = Value.ref a := r1
  refine wpAny_bind (wpAny_standAt (wpAny_bind (wpAny_holding (setattr_ok I1 ea c n l r fun s3 I3 => ?_))))
  exact wpAny_release ⟨σ, _, I3, q⟩
/-! ### dicts of numbers by numbers -/
def dki (l : List (Int × Int)) : List (Key × V) := l.map fun e => (Sum.inl e.1, V.int e.2)
def putI (l : List (Int × Int)) (k v : Int) : List (Int × Int) := if (l.any fun e => decide (e.1 = k)) = true then l.map (fun e => if e.1 = k then (e.1, v) else e) else l ++ [(k, v)]
theorem any_dki (k : Int) : ∀ l : List (Int × Int), ((dki l).any fun kv => decide (kv.1 = Sum.inl k)) = l.any fun e => decide (e.1 = k)
  | [] => rfl
  | (a, b) :: r => by
    show (decide ((Sum.inl a : Key) = Sum.inl k) || (dki r).any _) = (decide (a = k) || r.any _)
    rw [any_dki k r, key_ll, Bool.beq_eq_decide_eq]
theorem put_dki (l : List (Int × Int)) (k v : Int) : putK (dki l) (Sum.inl k : Key) (V.int v) = dki (putI l k v) := by
  unfold putK putI
  rw [any_dki]
  split
  · unfold dki
    rw [List.map_map, List.map_map]
    refine List.map_congr_left fun e _ => ?_
    show (if (Sum.inl e.1 : Key) = Sum.inl k then (Sum.inl e.1, V.int v) else (Sum.inl e.1, V.int e.2)) = _
    by_cases c : e.1 = k
    · rw [if_pos (congrArg Sum.inl c)]
      show _ = (fun e : Int × Int => ((Sum.inl e.1 : Key), V.int e.2)) (if e.1 = k then (e.1, v) else e)
      rw [if_pos c]
    · rw [if_neg (fun z => c (Sum.inl.inj z))]
      show _ = (fun e : Int × Int => ((Sum.inl e.1 : Key), V.int e.2)) (if e.1 = k then (e.1, v) else e)
      rw [if_neg c]
  · unfold dki
    rw [List.map_append]
    rfl
theorem drop_dki (l : List (Int × Int)) (k : Int) : dropK (dki l) (Sum.inl k : Key) = dki (l.filter fun e => decide (e.1 ≠ k)) := by
  unfold dropK dki
  rw [List.filter_map]
  congr 1
  refine List.filter_congr fun e _ => ?_
  show decide (¬ (Sum.inl e.1 : Key) = Sum.inl k) = decide (¬ e.1 = k)
  by_cases c : e.1 = k
  · simp [c]
  · have : ¬ (Sum.inl e.1 : Key) = Sum.inl k := fun z => c (Sum.inl.inj z)
    simp [c, this]
theorem val_dki (k : Int) : ∀ l : List (Int × Int), valV (dki l) (Sum.inl k : Key) = (l.lookup k).map V.int
  | [] => rfl
  | (a, b) :: r => by
    by_cases c : a = k
    · subst c
      show valV ((Sum.inl a, V.int b) :: dki r) _ = _
      rw [valV_pos rfl]
      simp [List.lookup]
    · show valV ((Sum.inl a, V.int b) :: dki r) _ = _
      rw [valV_neg (fun z => c (Sum.inl.inj z)), val_dki k r]
      have : (k == a) = false := beq_eq_false_iff_ne.mpr (Ne.symm c)
      simp [List.lookup, this]
theorem look_ks {k : Int} : ∀ {l : List (Int × Int)}, k ∈ ks l → ∃ v, l.lookup k = some v
  | [], h => nomatch h
  | (a, b) :: r, h => by
    by_cases c : k = a
    · subst c
      exact ⟨b, by simp [List.lookup]⟩
    · have : (k == a) = false := beq_eq_false_iff_ne.mpr c
      rcases List.mem_cons.mp h with h | h
      · exact absurd h c
      · obtain ⟨v, e⟩ := look_ks h
        exact ⟨v, by simp [List.lookup, this, e]⟩
theorem ks_putI {l : List (Int × Int)} {k v q : Int} : q ∈ ks (putI l k v) ↔ q ∈ ks l ∨ q = k := by
  unfold putI
  split
  · rename_i c
    have e : ks (l.map fun e => if e.1 = k then (e.1, v) else e) = ks l := by
      unfold ks
      rw [List.map_map]
      refine List.map_congr_left fun e _ => ?_
      show (if e.1 = k then (e.1, v) else e).1 = e.1
      split <;> rfl
    rw [e]
    obtain ⟨x, hx, ex⟩ := List.any_eq_true.mp c
    constructor
    · exact .inl
    · rintro (h | h)
      · exact h
      · exact List.mem_map.mpr ⟨x, hx, (of_decide_eq_true ex).trans h.symm⟩
  · simp [ks]
theorem ks_drop {l : List (Int × Int)} {k q : Int} : q ∈ ks (l.filter fun e => decide (e.1 ≠ k)) ↔ q ∈ ks l ∧ q ≠ k := by
  unfold ks
  constructor
  · intro h
    obtain ⟨x, hx, rfl⟩ := List.mem_map.mp h
    have := List.mem_filter.mp hx
    exact ⟨List.mem_map.mpr ⟨x, this.1, rfl⟩, of_decide_eq_true this.2⟩
  · rintro ⟨h, n⟩
    obtain ⟨x, hx, rfl⟩ := List.mem_map.mp h
    exact List.mem_map.mpr ⟨x, List.mem_filter.mpr ⟨hx, decide_eq_true n⟩, rfl⟩
theorem putI_len (l : List (Int × Int)) (k v : Int) : (putI l k v).length ≤ l.length + 1 := by
  unfold putI
  split
  · rw [List.length_map]; exact Nat.le_succ _
  · rw [List.length_append]; exact Nat.le_refl _
/-! ### a run as it stands in memory -/
structure Cfg where
  pl : Int
  rm : Int
  lt : Int
  ms : Int
  g : G
structure RunS where
  cells : List Int
  lies : List (Int × Int)
  answers : List Int
  rows : List (Int × Str × Int)
  st : RSt
def evS (turn : Int) (s : RunS) (e : Str × Int) : RunS :=
  { s with rows := s.rows ++ [(turn, e.1, e.2)], lies := if isOut e.1 then s.lies.filter (fun x => decide (x.1 ≠ e.2)) else if isIn e.1 then putI s.lies e.2 (s.cells.getD e.2.toNat 0) else s.lies }
def doD (d : Deed) (s : RunS) : RunS := match d.2 with
  | none => { s with answers := s.answers ++ [(s.lies.lookup d.1).getD 0] }
  | some v => { s with lies := putI s.lies d.1 v, cells := s.cells.set d.1.toNat v }
def goC (c : Cfg) (s : RSt) (p : Int) : RSt × Evs := goneP c.pl c.rm c.lt c.ms c.g s p
def deedS (c : Cfg) (turn : Int) (d : Deed) (s : RunS) : RunS := doD d ((goC c s.st d.1).2.foldl (evS turn) { s with st := (goC c s.st d.1).1 })
def rfs (h : Addr) (v : V) (c l a r st : Addr) : List (Str × V) := [("house", .ref h), ("guesser", v), ("cells", .ref c), ("lies", .ref l), ("answers", .ref a), ("rows", .ref r), ("state", .ref st)]
structure RunC (K : PySem.W.Frag) (C : Addr) : Prop where
  house : NoAttr K C "house"
  guesser : NoAttr K C "guesser"
  cells : NoAttr K C "cells"
  lies : NoAttr K C "lies"
  answers : NoAttr K C "answers"
  rows : NoAttr K C "rows"
  state : NoAttr K C "state"
def PrR (K : PySem.W.Frag) (H : Hp) (as : List Addr) (rs : List (Int × Str × Int)) : Prop := Paired (fun (p : Addr) (e : Int × Str × Int) => SqT K H p [.int e.1, .str e.2.1, .int e.2.2]) as rs
theorem PrR.imm {K : PySem.W.Frag} {H H' : Hp} {as : List Addr} {rs : List (Int × Str × Int)} (h : PrR K H as rs) (e : Imm H H') : PrR K H' as rs := Paired.mapP h fun _ _ z => e.t z
def IsRs (K : PySem.W.Frag) (H : Hp) (a : Addr) (rs : List (Int × Str × Int)) : Prop := ∃ as : List Addr, H a = some (.lst (as.map V.ref)) ∧ PrR K H as rs
structure RunO (K : PySem.W.Frag) (CR CH : Addr) (c : Cfg) (H0 H : Hp) (r dx h : Addr) (v : V) (cA lA aA rA st : Addr) (s : RunS) : Prop where
  ob : H r = some (.ins CR dx (rfs h v cA lA aA rA st))
  s0 : Same H0 H
  n0 : H0 r = none
  nc : H0 cA = none
  nl : H0 lA = none
  na : H0 aA = none
  nr : H0 rA = none
  ca : cA ≠ aA
  cr : cA ≠ rA
  ar : aA ≠ rA
  hr : h ≠ r
  hh : IsH CH H h c.pl c.rm c.lt c.ms
  hg : IsG K H c.g v
  hc : H cA = some (.lst (s.cells.map V.int))
  hl : H lA = some (.dK (dki s.lies))
  ha : H aA = some (.lst (s.answers.map V.int))
  hrr : IsRs K H rA s.rows
  hst : IsSt K H st s.st
theorem Imm.updN {H : Hp} {x : Addr} {o u : HO} (h : H x = some o) (h1 : ∀ xs, o ≠ .tup xs) (h2 : ∀ a b, o ≠ .frz a b) : Imm H (L2.upd H x u) :=
  ⟨fun b xs e => by rw [upd_ne (fun z => by subst z; rw [h] at e; exact h1 xs (Option.some.inj e))]; exact e, fun b a t _ e => by rw [upd_ne (fun z => by subst z; rw [h] at e; exact h2 a t (Option.some.inj e))]; exact e⟩
section
variable {K : PySem.W.Frag} {CR CH : Addr} {c : Cfg} {H0 H : Hp} {r dx h : Addr} {v : V} {cA lA aA rA st : Addr} {s : RunS}
theorem RunO.same {H' : Hp} (o : RunO K CR CH c H0 H r dx h v cA lA aA rA st s) (e : Same H H') : RunO K CR CH c H0 H' r dx h v cA lA aA rA st s := by
  obtain ⟨as, r1, r2⟩ := o.hrr
  exact ⟨e _ _ o.ob, o.s0.trans e, o.n0, o.nc, o.nl, o.na, o.nr, o.ca, o.cr, o.ar, o.hr, o.hh.same e, o.hg.same e, e _ _ o.hc, e _ _ o.hl, e _ _ o.ha, ⟨as, e _ _ r1, r2.imm (Imm.same e)⟩, o.hst.imm (Imm.same e)⟩
theorem RunO.neq (o : RunO K CR CH c H0 H r dx h v cA lA aA rA st s) : (r ≠ cA ∧ r ≠ lA ∧ r ≠ aA ∧ r ≠ rA) ∧ (h ≠ cA ∧ h ≠ lA ∧ h ≠ aA ∧ h ≠ rA) ∧ (lA ≠ cA ∧ lA ≠ aA ∧ lA ≠ rA) := by
  obtain ⟨as, r1, r2⟩ := o.hrr
  obtain ⟨dh, hh⟩ := o.hh
  refine ⟨⟨ne_of o.ob o.hc (by intro z; cases z), ne_of o.ob o.hl (by intro z; cases z), ne_of o.ob o.ha (by intro z; cases z), ne_of o.ob r1 (by intro z; cases z)⟩, ⟨ne_of hh o.hc (by intro z; cases z), ne_of hh o.hl (by intro z; cases z), ne_of hh o.ha (by intro z; cases z), ne_of hh r1 (by intro z; cases z)⟩, ⟨ne_of o.hl o.hc (by intro z; cases z), ne_of o.hl o.ha (by intro z; cases z), ne_of o.hl r1 (by intro z; cases z)⟩⟩
/-- one more row -/
theorem RunO.row {as : List Addr} {p : Addr} {t q : Int} {x : Str} (o : RunO K CR CH c H0 H r dx h v cA lA aA rA st s) (h1 : H rA = some (.lst (as.map V.ref))) (h2 : PrR K H as s.rows) (hp : SqT K H p [.int t, .str x, .int q]) :
    RunO K CR CH c H0 (upd H rA (.lst (as.map V.ref ++ [.ref p]))) r dx h v cA lA aA rA st { s with rows := s.rows ++ [(t, x, q)] } := by
  obtain ⟨⟨n1, n2, n3, n4⟩, ⟨m1, m2, m3, m4⟩, ⟨k1, k2, k3⟩⟩ := o.neq
  have im : Imm H (upd H rA (.lst (as.map V.ref ++ [.ref p]))) := Imm.upd ⟨_, h1⟩
  obtain ⟨dh, hh⟩ := o.hh
  exact ⟨by rw [upd_ne n4]; exact o.ob, same_mut o.s0 o.nr, o.n0, o.nc, o.nl, o.na, o.nr, o.ca, o.cr, o.ar, o.hr, ⟨dh, by rw [upd_ne m4]; exact hh⟩, o.hg.imm im, by rw [upd_ne o.cr]; exact o.hc, by rw [upd_ne k3]; exact o.hl, by rw [upd_ne o.ar]; exact o.ha,
    ⟨as ++ [p], by rw [upd_same, List.map_append]; rfl, Paired.snoc (h2.imm im) (im.t hp)⟩, o.hst.imm im⟩
theorem RunO.lie (o : RunO K CR CH c H0 H r dx h v cA lA aA rA st s) (l : List (Int × Int)) : RunO K CR CH c H0 (upd H lA (.dK (dki l))) r dx h v cA lA aA rA st { s with lies := l } := by
  obtain ⟨⟨n1, n2, n3, n4⟩, ⟨m1, m2, m3, m4⟩, ⟨k1, k2, k3⟩⟩ := o.neq
  have im : Imm H (upd H lA (.dK (dki l))) := Imm.updN o.hl (by intro _ z; cases z) (by intro _ _ z; cases z)
  obtain ⟨dh, hh⟩ := o.hh
  obtain ⟨as, r1, r2⟩ := o.hrr
  exact ⟨by rw [upd_ne n2]; exact o.ob, same_mut o.s0 o.nl, o.n0, o.nc, o.nl, o.na, o.nr, o.ca, o.cr, o.ar, o.hr, ⟨dh, by rw [upd_ne m2]; exact hh⟩, o.hg.imm im, by rw [upd_ne k1.symm]; exact o.hc, upd_same, by rw [upd_ne k2.symm]; exact o.ha,
    ⟨as, by rw [upd_ne k3.symm]; exact r1, r2.imm im⟩, o.hst.imm im⟩
theorem RunO.ans (o : RunO K CR CH c H0 H r dx h v cA lA aA rA st s) (l : List Int) : RunO K CR CH c H0 (upd H aA (.lst (l.map V.int))) r dx h v cA lA aA rA st { s with answers := l } := by
  obtain ⟨⟨n1, n2, n3, n4⟩, ⟨m1, m2, m3, m4⟩, ⟨k1, k2, k3⟩⟩ := o.neq
  have im : Imm H (upd H aA (.lst (l.map V.int))) := Imm.upd ⟨_, o.ha⟩
  obtain ⟨dh, hh⟩ := o.hh
  obtain ⟨as, r1, r2⟩ := o.hrr
  exact ⟨by rw [upd_ne n3]; exact o.ob, same_mut o.s0 o.na, o.n0, o.nc, o.nl, o.na, o.nr, o.ca, o.cr, o.ar, o.hr, ⟨dh, by rw [upd_ne m3]; exact hh⟩, o.hg.imm im, by rw [upd_ne o.ca]; exact o.hc, by rw [upd_ne k2]; exact o.hl, upd_same,
    ⟨as, by rw [upd_ne o.ar.symm]; exact r1, r2.imm im⟩, o.hst.imm im⟩
theorem RunO.cell (o : RunO K CR CH c H0 H r dx h v cA lA aA rA st s) (l : List Int) : RunO K CR CH c H0 (upd H cA (.lst (l.map V.int))) r dx h v cA lA aA rA st { s with cells := l } := by
  obtain ⟨⟨n1, n2, n3, n4⟩, ⟨m1, m2, m3, m4⟩, ⟨k1, k2, k3⟩⟩ := o.neq
  have im : Imm H (upd H cA (.lst (l.map V.int))) := Imm.upd ⟨_, o.hc⟩
  obtain ⟨dh, hh⟩ := o.hh
  obtain ⟨as, r1, r2⟩ := o.hrr
  exact ⟨by rw [upd_ne n1]; exact o.ob, same_mut o.s0 o.nc, o.n0, o.nc, o.nl, o.na, o.nr, o.ca, o.cr, o.ar, o.hr, ⟨dh, by rw [upd_ne m1]; exact hh⟩, o.hg.imm im, upd_same, by rw [upd_ne k1]; exact o.hl, by rw [upd_ne o.ca.symm]; exact o.ha,
    ⟨as, by rw [upd_ne o.cr.symm]; exact r1, r2.imm im⟩, o.hst.imm im⟩
theorem RunO.stt {st' : Addr} {u : RSt} (o : RunO K CR CH c H0 H r dx h v cA lA aA rA st s) (hu : IsSt K H st' u) : RunO K CR CH c H0 (upd H r (.ins CR dx (rfs h v cA lA aA rA st'))) r dx h v cA lA aA rA st' { s with st := u } := by
  obtain ⟨⟨n1, n2, n3, n4⟩, ⟨m1, m2, m3, m4⟩, ⟨k1, k2, k3⟩⟩ := o.neq
  have im : Imm H (upd H r (.ins CR dx (rfs h v cA lA aA rA st'))) := Imm.updN o.ob (by intro _ z; cases z) (by intro _ _ z; cases z)
  obtain ⟨dh, hh⟩ := o.hh
  obtain ⟨as, r1, r2⟩ := o.hrr
  exact ⟨upd_same, same_mut o.s0 o.n0, o.n0, o.nc, o.nl, o.na, o.nr, o.ca, o.cr, o.ar, o.hr, ⟨dh, by rw [upd_ne o.hr]; exact hh⟩, o.hg.imm im, by rw [upd_ne n1.symm]; exact o.hc, by rw [upd_ne n2.symm]; exact o.hl, by rw [upd_ne n3.symm]; exact o.ha,
    ⟨as, by rw [upd_ne n4.symm]; exact r1, r2.imm im⟩, hu.imm im⟩
end
end St

namespace St
open PySem PySem.Spec PyProof.Rows L2

structure Cfg.Ok (c : Cfg) : Prop where
  g : good 3 c.g = true
  r1 : 1 ≤ c.rm
  r2 : c.rm ≤ 8
  m2 : c.ms ≤ 4
structure InvD (c : Cfg) (n : Nat) (s : RunS) : Prop where
  ce : ((s.cells.length : Nat) : Int) = c.pl
  ke : ∀ q, q ∈ ks s.lies ↔ q ∈ ks s.st.1
  iv : InvS c.pl c.rm c.ms s.st.1 s.st.2.1
  ft : Fit c.g s.st.2.2
  ok : okS n s.st.2.2
  ll : s.lies.length ≤ 40 * n
  rl : s.rows.length ≤ 40 * n
  al : s.answers.length ≤ n
theorem gone_len {c : Cfg} (ok : c.Ok) {n : Nat} {s : RSt} {p : Int} (l2 : ((s.2.1.length : Nat) : Int) ≤ c.ms) (ft : Fit c.g s.2.2) (ok2 : okS n s.2.2) : (goC c s p).2.length ≤ 34 := by
  obtain ⟨sh, wy, kn⟩ := s
  have l2 : ((wy.length : Nat) : Int) ≤ c.ms := l2
  have m2 := ok.m2
  have cl := comeP_len c.rm sh wy wy.length
  rw [List.take_length] at cl
  have cl3 : (comeP c.rm sh wy).2.2.length ≤ 2 * wy.length := cl.2.2
  have al := (askedP_len c.rm (comeP c.rm sh wy).1 (comeP c.rm sh wy).2.1 p).2.2
  have sl := startedP_len c.pl c.lt c.ms (askedP c.rm (comeP c.rm sh wy).1 (comeP c.rm sh wy).2.1 p).1 (askedP c.rm (comeP c.rm sh wy).1 (comeP c.rm sh wy).2.1 p).2.1 (stepG c.g kn p).2 (stepG c.g kn p).2.length
  rw [List.take_length] at sl
  have gl := stepG_len (p := p) ok.g ft ok2
  have sl2 : (startedP c.pl c.lt c.ms (askedP c.rm (comeP c.rm sh wy).1 (comeP c.rm sh wy).2.1 p).1 (askedP c.rm (comeP c.rm sh wy).1 (comeP c.rm sh wy).2.1 p).2.1 (stepG c.g kn p).2).2.length ≤ (stepG c.g kn p).2.length := sl.2
  show List.length (α := Str × Int) (_ ++ _ ++ _) ≤ 34
  rw [List.length_append, List.length_append]
  have gl' : (stepG c.g kn p).2.length ≤ 24 := gl
  dsimp only
  omega
theorem inV_2 (w a b : Str) : inV (.str w) [.str a, .str b] = decide (w = a ∨ w = b) := by
  show ((a == w) || ((b == w) || false)) = _
  by_cases c1 : w = a
  · subst c1; simp
  · by_cases c2 : w = b
    · subst c2; simp
    · have e1 : (a == w) = false := beq_eq_false_iff_ne.mpr (Ne.symm c1)
      have e2 : (b == w) = false := beq_eq_false_iff_ne.mpr (Ne.symm c2)
      simp [e1, e2, c1, c2]
theorem inV_3 (w a b c : Str) : inV (.str w) [.str a, .str b, .str c] = decide (w = a ∨ w = b ∨ w = c) := by
  show ((a == w) || ((b == w) || ((c == w) || false))) = _
  by_cases c1 : w = a
  · subst c1; simp
  · by_cases c2 : w = b
    · subst c2; simp
    · by_cases c3 : w = c
      · subst c3; simp
      · have e1 : (a == w) = false := beq_eq_false_iff_ne.mpr (Ne.symm c1)
        have e2 : (b == w) = false := beq_eq_false_iff_ne.mpr (Ne.symm c2)
        have e3 : (c == w) = false := beq_eq_false_iff_ne.mpr (Ne.symm c3)
        simp [e1, e2, e3, c1, c2, c3]
theorem isOut_notIn {w : Str} (h : isOut w) : ¬ isIn w := by
  rcases h with rfl | rfl <;> decide
/-- the lies as the events go on -/
theorem ev_step {pl : Int} {A B : Int → Prop} {turn : Int} {s : RunS} {w : Str} {p : Int} {es : Evs} (h : ∀ q, q ∈ ks s.lies ↔ A q) (hc : Ch pl A ((w, p) :: es) B) :
    (0 ≤ p ∧ p < pl) ∧ (isOut w → p ∈ ks s.lies) ∧ ∃ A', (∀ q, q ∈ ks (evS turn s (w, p)).lies ↔ A' q) ∧ Ch pl A' es B := by
  obtain ⟨hp, h2⟩ := hc
  refine ⟨hp, ?_, ?_⟩
  · intro o
    rw [if_pos o] at h2
    exact (h p).mpr h2.1
  · by_cases c1 : isOut w
    · rw [if_pos c1] at h2
      refine ⟨_, fun q => ?_, h2.2⟩
      have e : (evS turn s (w, p)).lies = s.lies.filter (fun x => decide (x.1 ≠ p)) := if_pos c1
      rw [e, ks_drop, h]
    · rw [if_neg c1] at h2
      by_cases c2 : isIn w
      · rw [if_pos c2] at h2
        refine ⟨_, fun q => ?_, h2⟩
        have e : (evS turn s (w, p)).lies = putI s.lies p (s.cells.getD p.toNat 0) := (if_neg c1).trans (if_pos c2)
        rw [e, ks_putI, h]
      · rw [if_neg c2] at h2
        refine ⟨A, fun q => ?_, h2⟩
        have e : (evS turn s (w, p)).lies = s.lies := (if_neg c1).trans (if_neg c2)
        rw [e, h]
theorem evS_len (turn : Int) (s : RunS) (e : Str × Int) : (evS turn s e).lies.length ≤ s.lies.length + 1 ∧ (evS turn s e).rows.length = s.rows.length + 1 := by
  refine ⟨?_, List.length_append⟩
  unfold evS
  show (if isOut e.1 then _ else if isIn e.1 then _ else _ : List (Int × Int)).length ≤ _
  split
  · exact Nat.le_succ_of_le (List.length_filter_le _ _)
  · split
    · exact putI_len _ _ _
    · exact Nat.le_succ _
theorem evs_run {pl : Int} {B : Int → Prop} {turn : Int} : ∀ {es : Evs} {A : Int → Prop} {s : RunS}, (∀ q, q ∈ ks s.lies ↔ A q) → Ch pl A es B →
    (∀ q, q ∈ ks (es.foldl (evS turn) s).lies ↔ B q) ∧ (es.foldl (evS turn) s).lies.length ≤ s.lies.length + es.length ∧ (es.foldl (evS turn) s).rows.length = s.rows.length + es.length ∧ (es.foldl (evS turn) s).cells = s.cells ∧ (es.foldl (evS turn) s).answers = s.answers ∧ (es.foldl (evS turn) s).st = s.st
  | [], A, s, h, hc => ⟨fun q => (h q).trans (hc q), Nat.le_refl _, rfl, rfl, rfl, rfl⟩
  | (w, p) :: es, A, s, h, hc => by
    obtain ⟨_, _, A', h', hc'⟩ := ev_step (turn := turn) h hc
    obtain ⟨i1, i2, i3, i4, i5, i6⟩ := evs_run (turn := turn) h' hc'
    have l := evS_len turn s (w, p)
    refine ⟨i1, ?_, ?_, i4, i5, i6⟩
    · show _ ≤ s.lies.length + (es.length + 1)
      have : ((w, p) :: es).foldl (evS turn) s = es.foldl (evS turn) (evS turn s (w, p)) := rfl
      rw [this]
      omega
    · show _ = s.rows.length + (es.length + 1)
      have : ((w, p) :: es).foldl (evS turn) s = es.foldl (evS turn) (evS turn s (w, p)) := rfl
      rw [this]
      omega
theorem evs_pre {pl : Int} {A B : Int → Prop} {turn : Int} {es : Evs} {s : RunS} (h : ∀ q, q ∈ ks s.lies ↔ A q) (hc : Ch pl A es B) : ∀ i, i ≤ es.length →
    ∃ A', (∀ q, q ∈ ks ((es.take i).foldl (evS turn) s).lies ↔ A' q) ∧ Ch pl A' (es.drop i) B ∧ ((es.take i).foldl (evS turn) s).lies.length ≤ s.lies.length + i ∧ ((es.take i).foldl (evS turn) s).rows.length = s.rows.length + i ∧ ((es.take i).foldl (evS turn) s).cells = s.cells
  | 0, _ => ⟨A, by rw [List.take_zero]; exact h, by rw [List.drop_zero]; exact hc, Nat.le_refl _, rfl, rfl⟩
  | i + 1, hi => by
    obtain ⟨A', h1, h2, h3, h4, h5⟩ := evs_pre h hc i (by omega)
    have hi' : i < es.length := hi
    rw [List.drop_eq_getElem_cons hi'] at h2
    have tk : es.take (i + 1) = es.take i ++ [es[i]] := by rw [List.take_add_one, List.getElem?_eq_getElem hi']; rfl
    rw [tk, List.foldl_append]
    show ∃ A' : Int → Prop, (∀ q, q ∈ ks (evS turn ((es.take i).foldl (evS turn) s) es[i]).lies ↔ A' q) ∧ _ ∧ (evS turn ((es.take i).foldl (evS turn) s) es[i]).lies.length ≤ _ ∧ (evS turn ((es.take i).foldl (evS turn) s) es[i]).rows.length = _ ∧ (evS turn ((es.take i).foldl (evS turn) s) es[i]).cells = _
    generalize (es.take i).foldl (evS turn) s = t at h1 h3 h4 h5
    generalize es[i] = e at h2
    obtain ⟨w, p⟩ := e
    obtain ⟨_, _, A2, j1, j2⟩ := ev_step (turn := turn) h1 h2
    have l := evS_len turn t (w, p)
    exact ⟨A2, j1, j2, by omega, by omega, h5⟩
theorem deed_sq {K : PySem.W.Frag} {H : Hp} {a : Addr} : ∀ {d : Deed}, IsDeed K H a d → ∃ w rest, SqT K H a (.str w :: .int d.1 :: rest) ∧ ((w = ("read" : Str) ∧ d.2 = none) ∨ (w ≠ ("read" : Str) ∧ ∃ v, d.2 = some v ∧ rest = [.int v]))
  | (p, none), h => ⟨"read", [], h, .inl ⟨rfl, rfl⟩⟩
  | (p, some v), h => ⟨"write", [.int v], h, .inr ⟨by decide, v, rfl, rfl⟩⟩
theorem Deed.pl {pl : Int} {d : Deed} (h : Deed.Good pl d) : 0 ≤ d.1 ∧ d.1 < pl := by
  obtain ⟨p, v⟩ := d
  cases v with
  | none => exact h
  | some v => exact h.1
theorem deed_inv {c : Cfg} (ok : c.Ok) {n : Nat} {s : RunS} {turn : Int} {d : Deed} (I : InvD c n s) (hd : Deed.Good c.pl d) :
    InvD c (n + 1) (deedS c turn d s) := by
  have hp := Deed.pl hd
  obtain ⟨g1, g2, g3⟩ := gone_inv (lt := c.lt) (g := c.g) (s := s.st) ok.r1 I.iv hp
  have gl := gone_len (p := d.1) ok I.iv.l2 I.ft I.ok
  have kp := stepG_keeps (p := d.1) ok.g I.ft I.ok
  obtain ⟨e1, e2, e3, e4, e5, e6⟩ := evs_run (turn := turn) (s := { s with st := (goC c s.st d.1).1 }) (es := (goC c s.st d.1).2) I.ke g2
  have ft' : Fit c.g (goC c s.st d.1).1.2.2 := kp.1
  have ok' : okS (n + 1) (goC c s.st d.1).1.2.2 := kp.2
  unfold deedS
  generalize (goC c s.st d.1).2.foldl (evS turn) { s with st := (goC c s.st d.1).1 } = t at e1 e2 e3 e4 e5 e6
  have ll := I.ll
  have rl := I.rl
  have al := I.al
  have e2 : t.lies.length ≤ s.lies.length + (goC c s.st d.1).2.length := e2
  have e3 : t.rows.length = s.rows.length + (goC c s.st d.1).2.length := e3
  have e4 : t.cells = s.cells := e4
  have e5 : t.answers = s.answers := e5
  have e6 : t.st = (goC c s.st d.1).1 := e6
  obtain ⟨p, v⟩ := d
  cases v with
  | none =>
    refine ⟨by show ((t.cells.length : Nat) : Int) = _; rw [e4]; exact I.ce, fun q => ?_, ?_, ?_, ?_, ?_, ?_, ?_⟩
    · show q ∈ ks t.lies ↔ q ∈ ks t.st.1
      rw [e6]
      exact e1 q
    · show InvS _ _ _ t.st.1 t.st.2.1
      rw [e6]
      exact g1
    · show Fit _ t.st.2.2
      rw [e6]
      exact ft'
    · show okS _ t.st.2.2
      rw [e6]
      exact ok'
    · show t.lies.length ≤ _
      omega
    · show t.rows.length ≤ _
      omega
    · show (t.answers ++ [_]).length ≤ _
      rw [List.length_append, e5]
      exact Nat.succ_le_succ al
  | some v =>
    have hpk : p ∈ ks t.lies := (e1 p).mpr g3
    refine ⟨by show (((t.cells.set _ _).length : Nat) : Int) = _; rw [List.length_set, e4]; exact I.ce, fun q => ?_, ?_, ?_, ?_, ?_, ?_, ?_⟩
    · show q ∈ ks (putI t.lies p v) ↔ q ∈ ks t.st.1
      rw [ks_putI, e6]
      constructor
      · rintro (h | h)
        · exact (e1 q).mp h
        · rw [h]; exact g3
      · intro h
        exact .inl ((e1 q).mpr h)
    · show InvS _ _ _ t.st.1 t.st.2.1
      rw [e6]
      exact g1
    · show Fit _ t.st.2.2
      rw [e6]
      exact ft'
    · show okS _ t.st.2.2
      rw [e6]
      exact ok'
    · show (putI t.lies p v).length ≤ _
      have := putI_len t.lies p v
      omega
    · show t.rows.length ≤ _
      omega
    · have z : t.answers.length ≤ n := by rw [e5]; exact al
      exact Nat.le_succ_of_le z
end St

namespace St
open PySem PySem.Spec PyProof.Rows L2

def cfgOf (s : Stg) (g : G) : Cfg := ⟨((s.mem.length : Nat) : Int), s.rm, s.lt, s.ms, g⟩
def run0 (s : Stg) (g : G) : RunS := ⟨s.mem, [], [], [], ([], [], first0 g)⟩
def runTo (s : Stg) (g : G) (ds : List Deed) : Nat → RunS
  | 0 => run0 s g
  | i + 1 => match ds[i]? with
    | none => runTo s g ds i
    | some d => deedS (cfgOf s g) ((i : Nat) : Int) d (runTo s g ds i)
theorem cfg_ok {s : Stg} {g : G} (hs : s.Good) (hg : good 3 g = true) : (cfgOf s g).Ok := ⟨hg, hs.r1, hs.r2, hs.w2⟩
theorem run0_inv {s : Stg} {g : G} (hs : s.Good) (hg : good 3 g = true) : InvD (cfgOf s g) 0 (run0 s g) :=
  ⟨rfl, fun _ => Iff.rfl, ⟨List.nodup_nil, fun _ h => (nomatch h), by have := hs.r1; show (0 : Int) ≤ s.rm; omega, by have := hs.w1; show (0 : Int) ≤ s.ms; omega⟩, fit_first hg, ok_first g, Nat.le_refl _, Nat.le_refl _, Nat.le_refl _⟩
theorem runTo_inv {s : Stg} {g : G} (hs : s.Good) (hg : good 3 g = true) {ds : List Deed} (hd : ∀ d ∈ ds, Deed.Good ((s.mem.length : Nat) : Int) d) : ∀ i, i ≤ ds.length → InvD (cfgOf s g) i (runTo s g ds i)
  | 0, _ => run0_inv hs hg
  | i + 1, hi => by
    have ih := runTo_inv hs hg hd i (by omega)
    unfold runTo
    rw [List.getElem?_eq_getElem (show i < ds.length by omega)]
    exact deed_inv (cfg_ok hs hg) ih (hd _ (List.getElem_mem (by omega)))
theorem stepF {Hk : Hp} {p a : Addr} {o : HO} {fs : List (Str × V)} (fs' : List (Str × V)) {C dx : Addr} (e : Hk p = some (.ins C dx fs)) (na : Hk a = none) :
    SameX p Hk (upd (upd Hk a o) p (.ins C dx fs')) ∧ (upd (upd Hk a o) p (.ins C dx fs')) p = some (.ins C dx fs') ∧ a ≠ p ∧ (upd (upd Hk a o) p (.ins C dx fs')) a = some o ∧ Imm Hk (upd (upd Hk a o) p (.ins C dx fs')) := by
  have n : a ≠ p := (ne_of_none e na).symm
  have e' := same_upd (o := o) na _ _ e
  exact ⟨(SameX.of (same_upd na)).trans SameX.upd, upd_same, n, by rw [upd_ne n, upd_same], (Imm.same (same_upd na)).trans (Imm.updN e' (by intro _ z; cases z) (by intro _ _ z; cases z))⟩
end St

namespace St
open PySem PySem.Spec PyProof.Rows L2
abbrev s_idle_in : Stmt := topS 30
abbrev N_idle_in : List Str := ["state", "one"]
abbrev p_idle_in : List Str := ["state"]
theorem sc_idle_in : FnScope N_idle_in p_idle_in (defScope s_idle_in) := ⟨rfl, rfl, rfl, by decide +kernel, rfl, by decide +kernel, by decide +kernel⟩
theorem flat_strs : ∀ l : List Str, (l.map V.str).all flatV = true
  | [] => rfl
  | _ :: r => by rw [List.map_cons, List.all_cons, flat_strs r]; rfl
theorem inV_strs (g : Str) : ∀ l : List Str, inV (.str g) (l.map V.str) = decide (g ∈ l)
  | [] => by simp [inV]
  | a :: r => by
    have ih := inV_strs g r
    show ((a == g) || inV (.str g) (r.map V.str)) = _
    rw [ih]
    by_cases c : g = a
    · subst c; simp
    · have e1 : (a == g) = false := beq_eq_false_iff_ne.mpr (Ne.symm c)
      simp [e1, c]
/-! ### what is counted -/
def cntP (ws : List Str) (rs : List (Int × Str × Int)) : Nat := (rs.filter fun e => decide (e.2.1 ∈ ws)).length
def idleN (st : RSt) : Nat := (st.1.filter fun e => e.2).length + st.2.1.length
def countsP (rs : List (Int × Str × Int)) (st : RSt) : List Int :=
  [((cntP ["hit", "first"] rs : Nat) : Int), ((cntP ["late"] rs : Nat) : Int), ((cntP ["miss"] rs : Nat) : Int), ((cntP ["start"] rs : Nat) : Int), ((cntP ["first", "late"] rs : Nat) : Int), ((cntP ["waste"] rs : Nat) : Int), ((idleN st : Nat) : Int)]
section
variable {P : Program} {w : World} {K : PySem.W.Frag} {mg : Str → Option Value} {base : Heap} {f fI f1 f2 C CR : Addr} {fd fd1 fd2 : FuncData}
def spCount (K : PySem.W.Frag) (CR C : Addr) : Sp := fun vs H Q _ => ∃ (r dx h : Addr) (v : V) (cA lA aA rA st wl : Addr) (c : Cfg) (H0 : Hp) (s : RunS) (ws : List Str), vs = [.ref r, .ref wl] ∧ RunO K CR C c H0 H r dx h v cA lA aA rA st s ∧ SqL K H wl (ws.map V.str) ∧ s.rows.length ≤ 10000 ∧
  ∀ H', Same H H' → Q (.int ((cntP ws s.rows : Nat) : Int)) H'
def spIdle (K : PySem.W.Frag) : Sp := fun vs H Q _ => ∃ (a : Addr) (s : RSt), vs = [.ref a] ∧ IsSt K H a s ∧ s.1.length ≤ 10000 ∧ s.2.1.length ≤ 10000 ∧ ∀ H', Same H H' → Q (.int ((idleN s : Nat) : Int)) H'
theorem ok_idle_in (T : Nms mg) (F : Fun K "idle_in" "idle_in" s_idle_in f fd) : FnOk P w K mg base CX0 1 f fd p_idle_in (spIdle K) := by
  refine F.ok sc_idle_in (fun vs H Q E h => ?_) (fun cdv A outer s H vs Q E hr h => ?_)
  · obtain ⟨a, s, rfl, _⟩ := h
    rfl
  obtain ⟨a, s, rfl, ⟨a1, a2, v, h1, ⟨as, h2, h3⟩, ⟨bs, h4, h5⟩, _⟩, l1, l2, q⟩ := h
  refine ⟨_, (pss_one (ps_ret (pe_op op_add (pe_callB call_len_seq (by rfl) T.n_len (by decide +kernel) (pa_cons (pe_lc (own := [("one", 1)]) (g := gName 1) rfl sc_idle_in.nd (pi_tup (pe_ix ix_tup (pv 0) pe_int (fun _ _ => rfl))) (blkOk_by (own := [("one", 1)]) (N := N_idle_in) (sc := defScope s_idle_in) (by decide +kernel)) (fun _ _ _ _ _ => pg_name (i := 1) sc_idle_in.nd rfl (Or.inl rfl)) (fun _ _ _ _ _ => pts_one (pt_val (pe_ix (ix_tupK (K := K)) (pv 1) pe_int (fun _ _ => rfl)))) (fun _ _ _ _ _ => (pv 1))) pa_nil)) (pe_callB call_len_seq (by rfl) T.n_len (by decide +kernel) (pa_cons (pe_ix ix_tup (pv 0) pe_int (fun _ _ => rfl)) pa_nil))))), ?_⟩
  have las : as.length = s.1.length := Paired.length h3
  have lbs : bs.length = s.2.1.length := Paired.length h5
  and_intros
  refine ⟨⟨_, h2⟩, fun D nD => ?_⟩
  refine lc_tup (xs := as.map V.ref) (fun j H2 => Same H H2 ∧ ∃ cs : List Addr, H2 D = some (.lst (cs.map V.ref)) ∧ cs.length = ((s.1.take j).filter (fun e => e.2)).length) ⟨same_upd nD, [], upd_same, rfl⟩ (fun j H2 _ h => same_t h.1 h2) (fun j y H2 hj h => ?_) (fun H2 h => ?_)
  · obtain ⟨s3, cs, eD, pc⟩ := h
    obtain ⟨u2, oo, rfl, hu2, tk2, eg2⟩ := pr_at (h3.imm (Imm.same s3)) hj
    obtain ⟨o1, o2⟩ := oo
    have hu2 : SqT K H2 u2 [.int o1, .bl o2] := hu2
    and_intros
    rw [tk2, filter_snoc]
    cases o2 with
    | true =>
      refine iteB rfl ?_
      have lc : cs.length ≤ s.1.length := by
        rw [pc]
        refine Nat.le_trans (List.length_filter_le _ _) ?_
        rw [List.length_take]
        exact Nat.min_le_right _ _
      refine ⟨_, rfl, _, eD, by rw [List.length_map]; exact szl (by omega), same_mut s3 nD, cs ++ [u2], by rw [upd_same, List.map_append]; rfl, ?_⟩
      rw [if_pos rfl, List.length_append, List.length_append, pc]
      rfl
    | false =>
      refine iteB0 rfl ?_
      rw [if_neg (by simp), List.append_nil]
      exact ⟨s3, cs, eD, pc⟩
  · obtain ⟨s3, cs, eD, pc⟩ := h
    rw [show s.1.take (as.map V.ref).length = s.1 by rw [List.length_map, las]; exact List.take_length] at pc
    have h1' := same_t s3 h1
    have h4' := same_t s3 h4
    refine ⟨_, _, rfl, .inl (sql eD), ?_⟩
    and_intros
    have e : (((cs.map V.ref).length : Nat) : Int) + (((bs.map V.ref).length : Nat) : Int) = ((idleN s : Nat) : Int) := by
      rw [List.length_map, List.length_map, pc, lbs]
      unfold idleN
      omega
    show Q (.int ((((cs.map V.ref).length : Nat) : Int) + (((bs.map V.ref).length : Nat) : Int))) H2
    rw [e]
    exact q H2 s3
def spCounts (K : PySem.W.Frag) (CR C : Addr) : Sp := fun vs H Q _ => ∃ (r dx h : Addr) (v : V) (cA lA aA rA st : Addr) (c : Cfg) (H0 : Hp) (s : RunS), vs = [.ref r] ∧ RunO K CR C c H0 H r dx h v cA lA aA rA st s ∧ s.rows.length ≤ 10000 ∧ s.st.1.length ≤ 10000 ∧ s.st.2.1.length ≤ 10000 ∧
  ∀ t H', Same H H' → SqT K H' t ((countsP s.rows s.st).map V.int) → Q (.ref t) H'
end
end St

namespace St
open PySem PySem.Spec PyProof.Rows L2
/-! ### memory alone -/
def plainD (s : List Int × List Int) : Deed → List Int × List Int
  | (p, none) => (s.1 ++ [s.2.getD p.toNat 0], s.2)
  | (p, some v) => (s.1, s.2.set p.toNat v)
def plainP (mem : List Int) (ds : List Deed) : List Int × List Int := ds.foldl plainD ([], mem)
theorem plain_len (mem : List Int) : ∀ (ds : List Deed) (s : List Int × List Int), s.2.length = mem.length → (ds.foldl plainD s).2.length = mem.length ∧ (ds.foldl plainD s).1.length ≤ s.1.length + ds.length
  | [], s, h => ⟨h, Nat.le_refl _⟩
  | (p, none) :: ds, s, h => by
    obtain ⟨a, b⟩ := plain_len mem ds (plainD s (p, none)) h
    refine ⟨a, Nat.le_trans b ?_⟩
    show (s.1 ++ [_]).length + ds.length ≤ s.1.length + (ds.length + 1)
    rw [List.length_append]
    show s.1.length + 1 + _ ≤ _
    omega
  | (p, some v) :: ds, s, h => by
    obtain ⟨a, b⟩ := plain_len mem ds (plainD s (p, some v)) (by show (s.2.set _ _).length = _; rw [List.length_set]; exact h)
    refine ⟨a, Nat.le_trans b ?_⟩
    show s.1.length + ds.length ≤ s.1.length + (ds.length + 1)
    omega
end St

namespace St
open PySem PySem.Spec PyProof.Rows L2
/-! ### the counts of a run: what stands in balance -/
def cE (x : Str) (es : Evs) : Nat := (es.filter fun e => decide (e.1 = x)).length
def cR (x : Str) (rs : List (Int × Str × Int)) : Nat := (rs.filter fun e => decide (e.2.1 = x)).length
theorem cE_app (x : Str) (a b : Evs) : cE x (a ++ b) = cE x a + cE x b := by unfold cE; rw [List.filter_append, List.length_append]
theorem cE_nil (x : Str) : cE x [] = 0 := rfl
theorem cE_one (x y : Str) (p : Int) : cE x [(y, p)] = if y = x then 1 else 0 := by
  unfold cE
  rw [List.filter_cons]
  by_cases c : y = x
  · rw [if_pos (by simp [c]), if_pos c]; rfl
  · rw [if_neg (by simp [c]), if_neg c]; rfl
theorem cR_app (x : Str) (a b : List (Int × Str × Int)) : cR x (a ++ b) = cR x a + cR x b := by unfold cR; rw [List.filter_append, List.length_append]
def rowsE (t : Int) (es : Evs) : List (Int × Str × Int) := es.map fun e => (t, e.1, e.2)
theorem cR_rows (x : Str) (t : Int) (es : Evs) : cR x (rowsE t es) = cE x es := by
  unfold cR rowsE cE
  rw [List.filter_map, List.length_map]
  rfl
theorem evs_rowsE (t : Int) : ∀ (es : Evs) (s : RunS), (es.foldl (evS t) s).rows = s.rows ++ rowsE t es
  | [], s => (List.append_nil _).symm
  | e :: es, s => by
    rw [List.foldl_cons, evs_rowsE t es]
    show s.rows ++ [(t, e.1, e.2)] ++ rowsE t es = s.rows ++ ((t, e.1, e.2) :: rowsE t es)
    rw [List.append_assoc]
    rfl
theorem cnt1 (x : Str) (rs : List (Int × Str × Int)) : cntP [x] rs = cR x rs := by
  unfold cntP cR
  congr 1
  refine List.filter_congr fun e _ => ?_
  simp
theorem cnt2 {x y : Str} (h : x ≠ y) (rs : List (Int × Str × Int)) : cntP [x, y] rs = cR x rs + cR y rs := by
  unfold cntP cR
  induction rs with
  | nil => rfl
  | cons e r ih =>
    rw [List.filter_cons, List.filter_cons, List.filter_cons]
    by_cases c1 : e.2.1 = x
    · have c2 : ¬ e.2.1 = y := fun z => h (c1.symm.trans z)
      rw [if_pos (by simp [c1]), if_pos (by simp [c1]), if_neg (by simp [c2])]
      rw [List.length_cons, List.length_cons, ih]
      omega
    · by_cases c2 : e.2.1 = y
      · rw [if_pos (by simp [c2]), if_neg (by simp [c1]), if_pos (by simp [c2])]
        rw [List.length_cons, List.length_cons, ih]
        omega
      · rw [if_neg (by simp [c1, c2]), if_neg (by simp [c1]), if_neg (by simp [c2])]
        exact ih
def fN (sh : Shelf) : Nat := (sh.filter fun e => e.2).length
theorem fN_app (a b : Shelf) : fN (a ++ b) = fN a + fN b := by unfold fN; rw [List.filter_append, List.length_append]
theorem fN_one (p : Int) (w : Bool) : fN [(p, w)] = if w = true then 1 else 0 := by cases w <;> rfl
theorem fN_cons (e : Int × Bool) (r : Shelf) : fN (e :: r) = (if e.2 = true then 1 else 0) + fN r := by
  unfold fN
  rw [List.filter_cons]
  cases h : e.2
  · simp
  · simp; omega
/-- how many events tell of an ask -/
structure NoAsk (es : Evs) : Prop where
  h : cE "hit" es = 0
  f : cE "first" es = 0
  l : cE "late" es = 0
  m : cE "miss" es = 0
  s : cE "start" es = 0
theorem NoAsk.app {a b : Evs} (x : NoAsk a) (y : NoAsk b) : NoAsk (a ++ b) := by
  refine ⟨?_, ?_, ?_, ?_, ?_⟩ <;> rw [cE_app]
  · rw [x.h, y.h]
  · rw [x.f, y.f]
  · rw [x.l, y.l]
  · rw [x.m, y.m]
  · rw [x.s, y.s]
theorem laid_b (rm : Int) (sh : Shelf) (p : Int) (w : Bool) : NoAsk (laidP rm sh p w).2 ∧ fN (laidP rm sh p w).1 + cE "waste" (laidP rm sh p w).2 = fN sh + (if w = true then 1 else 0) := by
  unfold laidP
  split
  · cases sh with
    | nil => exact ⟨⟨rfl, rfl, rfl, rfl, rfl⟩, by show fN [(p, w)] + cE "waste" [] = fN [] + _; rw [fN_one, cE_nil]; show _ = 0 + _; omega⟩
    | cons e r =>
      obtain ⟨q, b⟩ := e
      cases b with
      | true =>
        refine ⟨⟨?_, ?_, ?_, ?_, ?_⟩, ?_⟩
        · show cE "hit" [(("waste" : Str), q)] = 0
          rw [cE_one, if_neg (by decide)]
        · show cE "first" [(("waste" : Str), q)] = 0
          rw [cE_one, if_neg (by decide)]
        · show cE "late" [(("waste" : Str), q)] = 0
          rw [cE_one, if_neg (by decide)]
        · show cE "miss" [(("waste" : Str), q)] = 0
          rw [cE_one, if_neg (by decide)]
        · show cE "start" [(("waste" : Str), q)] = 0
          rw [cE_one, if_neg (by decide)]
        · show fN (r ++ [(p, w)]) + cE "waste" [(("waste" : Str), q)] = fN ((q, true) :: r) + _
          have h1 : cE "waste" [(("waste" : Str), q)] = 1 := by rw [cE_one, if_pos rfl]
          have h2 : fN ((q, true) :: r) = 1 + fN r := by rw [fN_cons, if_pos rfl]
          rw [fN_app, fN_one, h1, h2]
          omega
      | false =>
        refine ⟨⟨?_, ?_, ?_, ?_, ?_⟩, ?_⟩
        · show cE "hit" [(("leave" : Str), q)] = 0
          rw [cE_one, if_neg (by decide)]
        · show cE "first" [(("leave" : Str), q)] = 0
          rw [cE_one, if_neg (by decide)]
        · show cE "late" [(("leave" : Str), q)] = 0
          rw [cE_one, if_neg (by decide)]
        · show cE "miss" [(("leave" : Str), q)] = 0
          rw [cE_one, if_neg (by decide)]
        · show cE "start" [(("leave" : Str), q)] = 0
          rw [cE_one, if_neg (by decide)]
        · show fN (r ++ [(p, w)]) + cE "waste" [(("leave" : Str), q)] = fN ((q, false) :: r) + _
          have h1 : cE "waste" [(("leave" : Str), q)] = 0 := by rw [cE_one, if_neg (by decide)]
          have h2 : fN ((q, false) :: r) = fN r := by rw [fN_cons, if_neg (by simp), Nat.zero_add]
          rw [fN_app, fN_one, h1, h2]
          omega
  · refine ⟨⟨rfl, rfl, rfl, rfl, rfl⟩, ?_⟩
    show fN (sh ++ [(p, w)]) + 0 = _
    rw [fN_app, fN_one]
    rfl
theorem noAsk_come (p : Int) : NoAsk [(("come" : Str), p)] ∧ cE "waste" [(("come" : Str), p)] = 0 := by
  refine ⟨⟨?_, ?_, ?_, ?_, ?_⟩, ?_⟩ <;> rw [cE_one, if_neg (by decide)]
theorem come_b (rm : Int) : ∀ (wy : Way) (sh : Shelf) (left : Way) (evs : Evs), NoAsk evs →
    NoAsk (wy.foldl (comeS rm) (sh, left, evs)).2.2 ∧ fN (wy.foldl (comeS rm) (sh, left, evs)).1 + (wy.foldl (comeS rm) (sh, left, evs)).2.1.length + cE "waste" (wy.foldl (comeS rm) (sh, left, evs)).2.2 = fN sh + left.length + wy.length + cE "waste" evs
  | [], sh, left, evs, h => ⟨h, rfl⟩
  | (p, t) :: wy, sh, left, evs, h => by
    rw [List.foldl_cons]
    by_cases c : t = 0
    · have e2 : comeS rm (sh, left, evs) (p, t) = ((laidP rm sh p true).1, left, evs ++ (laidP rm sh p true).2 ++ [(("come" : Str), p)]) := if_pos c
      rw [e2]
      obtain ⟨a, b⟩ := laid_b rm sh p true
      obtain ⟨n1, n2⟩ := noAsk_come p
      obtain ⟨i1, i2⟩ := come_b rm wy (laidP rm sh p true).1 left (evs ++ (laidP rm sh p true).2 ++ [(("come" : Str), p)]) ((h.app a).app n1)
      refine ⟨i1, ?_⟩
      rw [i2, cE_app, cE_app, n2, List.length_cons]
      rw [if_pos rfl] at b
      omega
    · have e2 : comeS rm (sh, left, evs) (p, t) = (sh, left ++ [(p, t - 1)], evs) := if_neg c
      rw [e2]
      obtain ⟨i1, i2⟩ := come_b rm wy sh (left ++ [(p, t - 1)]) evs h
      refine ⟨i1, ?_⟩
      rw [i2]
      simp only [List.length_append, List.length_cons, List.length_nil]
      omega
theorem filter_key {β : Type} {l : List (Int × β)} {p : Int} (nd : (ks l).Nodup) : (p ∉ ks l ∧ (l.filter fun e => decide (e.1 ≠ p)).length = l.length) ∨ (p ∈ ks l ∧ (l.filter fun e => decide (e.1 ≠ p)).length + 1 = l.length) := by
  induction l with
  | nil => exact .inl ⟨fun h => (nomatch h), rfl⟩
  | cons a r ih =>
    have nd' : (a.1 :: ks r).Nodup := nd
    rw [List.nodup_cons] at nd'
    rw [List.filter_cons]
    by_cases c : a.1 = p
    · refine .inr ⟨by show p ∈ a.1 :: ks r; rw [c]; exact List.mem_cons_self .., ?_⟩
      rw [if_neg (by simp [c])]
      rcases ih nd'.2 with ⟨_, h⟩ | ⟨h, _⟩
      · rw [h]; rfl
      · rw [← c] at h
        exact absurd h nd'.1
    · rw [if_pos (by simp [c])]
      rcases ih nd'.2 with ⟨h1, h⟩ | ⟨h1, h⟩
      · refine .inl ⟨fun z => ?_, by rw [List.length_cons, List.length_cons, h]⟩
        rcases List.mem_cons.mp z with z | z
        · exact c z.symm
        · exact h1 z
      · exact .inr ⟨List.mem_cons_of_mem _ h1, by rw [List.length_cons, List.length_cons]; omega⟩
theorem fN_out {sh : Shelf} {e : Int × Bool} (nd : (ks sh).Nodup) (he : e ∈ sh) : fN (sh.filter fun o => decide (o ≠ e)) + (if e.2 = true then 1 else 0) = fN sh := by
  induction sh with
  | nil => cases he
  | cons a r ih =>
    have nd' : (a.1 :: ks r).Nodup := nd
    rw [List.nodup_cons] at nd'
    rw [List.filter_cons]
    by_cases c : a = e
    · subst c
      rw [if_neg (by simp), fN_cons]
      have : r.filter (fun o => decide (o ≠ a)) = r := List.filter_eq_self.mpr fun o ho => decide_eq_true fun z => nd'.1 (List.mem_map.mpr ⟨o, ho, by rw [z]⟩)
      rw [this]
      omega
    · rw [if_pos (by simp [c]), fN_cons, fN_cons]
      rcases List.mem_cons.mp he with h | h
      · exact absurd h.symm c
      · have := ih nd'.2 h
        omega
/-- one ask -/
structure OneAsk (es : Evs) : Prop where
  n : cE "hit" es + cE "first" es + cE "late" es + cE "miss" es = 1
  s : cE "start" es = 0
theorem asked_b {rm : Int} {sh : Shelf} {wy : Way} {p : Int} (nd : (ks sh).Nodup) (nw : (ks wy).Nodup) : OneAsk (askedP rm sh wy p).2.2 ∧
    fN (askedP rm sh wy p).1 + (askedP rm sh wy p).2.1.length + cE "waste" (askedP rm sh wy p).2.2 + cE "first" (askedP rm sh wy p).2.2 + cE "late" (askedP rm sh wy p).2.2 = fN sh + wy.length := by
  unfold askedP
  cases f : sh.find? (fun e => decide (e.1 = p)) with
  | some x =>
    obtain ⟨hx, xp⟩ := find_ks f
    have o := fN_out nd hx
    obtain ⟨q, b⟩ := x
    show OneAsk [((if b then "first" else "hit" : Str), p)] ∧ fN (sh.filter (fun o => decide (o ≠ (q, b))) ++ [(p, false)]) + wy.length + cE "waste" [((if b then "first" else "hit" : Str), p)] + cE "first" [((if b then "first" else "hit" : Str), p)] + cE "late" [((if b then "first" else "hit" : Str), p)] = _
    rw [fN_app, show fN [(p, false)] = 0 from rfl]
    cases b with
    | true =>
      rw [if_pos rfl] at o ⊢
      refine ⟨⟨?_, ?_⟩, ?_⟩
      · rw [cE_one, cE_one, cE_one, cE_one, if_neg (by decide), if_pos rfl, if_neg (by decide), if_neg (by decide)]
      · rw [cE_one, if_neg (by decide)]
      · rw [cE_one, cE_one, cE_one, if_neg (by decide), if_pos rfl, if_neg (by decide)]
        omega
    | false =>
      rw [if_neg (by simp)] at o ⊢
      refine ⟨⟨?_, ?_⟩, ?_⟩
      · rw [cE_one, cE_one, cE_one, cE_one, if_pos rfl, if_neg (by decide), if_neg (by decide), if_neg (by decide)]
      · rw [cE_one, if_neg (by decide)]
      · rw [cE_one, cE_one, cE_one, if_neg (by decide), if_neg (by decide), if_neg (by decide)]
        omega
  | none =>
    obtain ⟨a, b⟩ := laid_b rm sh p false
    rw [if_neg (by simp)] at b
    show OneAsk ((laidP rm sh p false).2 ++ [((if (wy.filter fun e => decide (e.1 ≠ p)).length = wy.length then "miss" else "late" : Str), p)]) ∧ fN (laidP rm sh p false).1 + (wy.filter fun e => decide (e.1 ≠ p)).length + cE "waste" ((laidP rm sh p false).2 ++ [((if (wy.filter fun e => decide (e.1 ≠ p)).length = wy.length then "miss" else "late" : Str), p)]) + cE "first" ((laidP rm sh p false).2 ++ [((if (wy.filter fun e => decide (e.1 ≠ p)).length = wy.length then "miss" else "late" : Str), p)]) + cE "late" ((laidP rm sh p false).2 ++ [((if (wy.filter fun e => decide (e.1 ≠ p)).length = wy.length then "miss" else "late" : Str), p)]) = _
    rcases filter_key (p := p) nw with ⟨_, h⟩ | ⟨_, h⟩
    · rw [if_pos h]
      refine ⟨⟨?_, ?_⟩, ?_⟩
      · rw [cE_app, cE_app, cE_app, cE_app, a.h, a.f, a.l, a.m, cE_one, cE_one, cE_one, cE_one, if_neg (by decide), if_neg (by decide), if_neg (by decide), if_pos rfl]
      · rw [cE_app, a.s, cE_one, if_neg (by decide)]
      · rw [cE_app, cE_app, cE_app, a.f, a.l, cE_one, cE_one, cE_one, if_neg (by decide), if_neg (by decide), if_neg (by decide)]
        omega
    · rw [if_neg (by omega)]
      refine ⟨⟨?_, ?_⟩, ?_⟩
      · rw [cE_app, cE_app, cE_app, cE_app, a.h, a.f, a.l, a.m, cE_one, cE_one, cE_one, cE_one, if_neg (by decide), if_neg (by decide), if_pos rfl, if_neg (by decide)]
      · rw [cE_app, a.s, cE_one, if_neg (by decide)]
      · rw [cE_app, cE_app, cE_app, a.f, a.l, cE_one, cE_one, cE_one, if_neg (by decide), if_neg (by decide), if_pos rfl]
        omega
theorem start_b {pl lt ms : Int} {sh : Shelf} : ∀ (gs : List Int) (wy : Way) (evs : Evs),
    (gs.foldl (startS pl lt ms sh) (wy, evs)).1.length + cE "start" evs = wy.length + cE "start" (gs.foldl (startS pl lt ms sh) (wy, evs)).2 ∧ ∀ x : Str, x ≠ "start" → cE x (gs.foldl (startS pl lt ms sh) (wy, evs)).2 = cE x evs
  | [], wy, evs => ⟨rfl, fun _ _ => rfl⟩
  | g :: gs, wy, evs => by
    rw [List.foldl_cons]
    by_cases c : (0 ≤ g ∧ g < pl) ∧ g ∉ sh.map (·.1) ++ wy.map (·.1) ∧ ((wy.length : Nat) : Int) < ms
    · have e : startS pl lt ms sh (wy, evs) g = (wy ++ [(g, lt)], evs ++ [(("start" : Str), g)]) := if_pos c
      rw [e]
      obtain ⟨i1, i2⟩ := start_b (pl := pl) (lt := lt) (ms := ms) (sh := sh) gs (wy ++ [(g, lt)]) (evs ++ [(("start" : Str), g)])
      refine ⟨?_, fun x hx => ?_⟩
      · rw [cE_app, cE_one, if_pos rfl, List.length_append] at i1
        have i1 : _ = wy.length + 1 + _ := i1
        omega
      · rw [i2 x hx, cE_app, cE_one, if_neg (Ne.symm hx)]
        rfl
    · have e : startS pl lt ms sh (wy, evs) g = (wy, evs) := if_neg c
      rw [e]
      exact start_b gs wy evs
/-- a turn -/
theorem gone_b {pl rm lt ms : Int} {g : G} {s : RSt} {p : Int} (h1 : 1 ≤ rm) (I : InvS pl rm ms s.1 s.2.1) :
    cE "hit" (goneP pl rm lt ms g s p).2 + cE "first" (goneP pl rm lt ms g s p).2 + cE "late" (goneP pl rm lt ms g s p).2 + cE "miss" (goneP pl rm lt ms g s p).2 = 1 ∧
    idleN (goneP pl rm lt ms g s p).1 + cE "waste" (goneP pl rm lt ms g s p).2 + cE "first" (goneP pl rm lt ms g s p).2 + cE "late" (goneP pl rm lt ms g s p).2 = idleN s + cE "start" (goneP pl rm lt ms g s p).2 := by
  obtain ⟨sh, wy, kn⟩ := s
  obtain ⟨c1, _, _, _, _⟩ := come_inv (A := (· ∈ ks sh)) h1 wy sh [] [] I.nd I.rg I.l1 (fun q => Iff.rfl)
  obtain ⟨m1, m2⟩ := come_b rm wy sh [] [] ⟨rfl, rfl, rfl, rfl, rfl⟩
  rw [List.nodup_append] at c1
  obtain ⟨a1, a2⟩ := asked_b (rm := rm) (p := p) c1.1 c1.2.1
  unfold goneP comeP
  show cE "hit" ((wy.foldl (comeS rm) (sh, [], [])).2.2 ++ (askedP rm (wy.foldl (comeS rm) (sh, [], [])).1 (wy.foldl (comeS rm) (sh, [], [])).2.1 p).2.2 ++ _) + cE "first" (_ ++ _ ++ _) + cE "late" (_ ++ _ ++ _) + cE "miss" (_ ++ _ ++ _) = 1 ∧ fN (askedP rm (wy.foldl (comeS rm) (sh, [], [])).1 (wy.foldl (comeS rm) (sh, [], [])).2.1 p).1 + (startedP pl lt ms _ _ _).1.length + cE "waste" (_ ++ _ ++ _) + cE "first" (_ ++ _ ++ _) + cE "late" (_ ++ _ ++ _) = fN sh + wy.length + cE "start" (_ ++ _ ++ _)
  generalize wy.foldl (comeS rm) (sh, [], []) = c at m1 m2 a1 a2
  generalize askedP rm c.1 c.2.1 p = a at a1 a2
  obtain ⟨b1, b2⟩ := start_b (pl := pl) (lt := lt) (ms := ms) (sh := a.1) (stepG g kn p).2 a.2.1 []
  have b1 : (startedP pl lt ms a.1 a.2.1 (stepG g kn p).2).1.length + 0 = a.2.1.length + cE "start" (startedP pl lt ms a.1 a.2.1 (stepG g kn p).2).2 := b1
  have b2 : ∀ x : Str, x ≠ "start" → cE x (startedP pl lt ms a.1 a.2.1 (stepG g kn p).2).2 = 0 := b2
  generalize startedP pl lt ms a.1 a.2.1 (stepG g kn p).2 = z at b1 b2
  have z1 := b2 "hit" (by decide)
  have z2 := b2 "first" (by decide)
  have z3 := b2 "late" (by decide)
  have z4 := b2 "miss" (by decide)
  have z5 := b2 "waste" (by decide)
  have an := a1.n
  have as := a1.s
  have m2 : fN c.1 + c.2.1.length + cE "waste" c.2.2 = fN sh + 0 + wy.length + 0 := m2
  simp only [cE_app, m1.h, m1.f, m1.l, m1.m, m1.s, z1, z2, z3, z4, z5, as]
  constructor
  · omega
  · omega
structure Bal (n : Nat) (s : RunS) : Prop where
  a : cR "hit" s.rows + cR "first" s.rows + cR "late" s.rows + cR "miss" s.rows = n
  b : idleN s.st + cR "waste" s.rows + cR "first" s.rows + cR "late" s.rows = cR "start" s.rows
theorem doD_rows (d : Deed) (s : RunS) : (doD d s).rows = s.rows ∧ (doD d s).st = s.st := by
  unfold doD
  split <;> exact ⟨rfl, rfl⟩
theorem deed_bal {c : Cfg} (ok : c.Ok) {n m : Nat} {s : RunS} {t : Int} {d : Deed} (I : InvD c n s) (hd : Deed.Good c.pl d) (B : Bal m s) : Bal (m + 1) (deedS c t d s) := by
  obtain ⟨g1, g2⟩ := gone_b (lt := c.lt) (g := c.g) (s := s.st) (p := d.1) ok.r1 I.iv
  have g1 : cE "hit" (goC c s.st d.1).2 + cE "first" (goC c s.st d.1).2 + cE "late" (goC c s.st d.1).2 + cE "miss" (goC c s.st d.1).2 = 1 := g1
  have g2 : idleN (goC c s.st d.1).1 + cE "waste" (goC c s.st d.1).2 + cE "first" (goC c s.st d.1).2 + cE "late" (goC c s.st d.1).2 = idleN s.st + cE "start" (goC c s.st d.1).2 := g2
  obtain ⟨_, g4, _⟩ := gone_inv (lt := c.lt) (g := c.g) (s := s.st) ok.r1 I.iv (Deed.pl hd)
  obtain ⟨_, _, _, _, _, e6⟩ := evs_run (turn := t) (s := { s with st := (goC c s.st d.1).1 }) (es := (goC c s.st d.1).2) I.ke g4
  have er := evs_rowsE t (goC c s.st d.1).2 { s with st := (goC c s.st d.1).1 }
  have er : ((goC c s.st d.1).2.foldl (evS t) { s with st := (goC c s.st d.1).1 }).rows = s.rows ++ rowsE t (goC c s.st d.1).2 := er
  have e6 : ((goC c s.st d.1).2.foldl (evS t) { s with st := (goC c s.st d.1).1 }).st = (goC c s.st d.1).1 := e6
  unfold deedS
  obtain ⟨d1, d2⟩ := doD_rows d ((goC c s.st d.1).2.foldl (evS t) { s with st := (goC c s.st d.1).1 })
  have a := B.a
  have b := B.b
  refine ⟨?_, ?_⟩
  · rw [d1, er, cR_app, cR_app, cR_app, cR_app, cR_rows, cR_rows, cR_rows, cR_rows]
    omega
  · rw [d1, d2, e6, er, cR_app, cR_app, cR_app, cR_app, cR_rows, cR_rows, cR_rows, cR_rows]
    omega
theorem runTo_bal {s : Stg} {g : G} (hs : s.Good) (hg : good 3 g = true) {ds : List Deed} (hd : ∀ d ∈ ds, Deed.Good ((s.mem.length : Nat) : Int) d) : ∀ i, i ≤ ds.length → Bal i (runTo s g ds i)
  | 0, _ => ⟨rfl, rfl⟩
  | i + 1, hi => by
    have ih := runTo_bal hs hg hd i (by omega)
    have iv := runTo_inv hs hg hd i (by omega)
    unfold runTo
    rw [List.getElem?_eq_getElem (show i < ds.length by omega)]
    exact deed_bal (cfg_ok hs hg) iv (hd _ (List.getElem_mem (by omega))) ih
/-! ### answers and memory are those of memory alone -/
theorem lk_none {k : Int} : ∀ {l : List (Int × Int)}, k ∉ ks l → l.lookup k = none
  | [], _ => rfl
  | (a, b) :: r, h => by
    have h1 : k ≠ a := fun z => h (z ▸ List.mem_cons_self ..)
    have : (k == a) = false := beq_eq_false_iff_ne.mpr h1
    rw [List.lookup_cons, this]
    exact lk_none fun z => h (List.mem_cons_of_mem _ z)
theorem lk_map {k v q : Int} : ∀ {l : List (Int × Int)}, k ∈ ks l → (l.map fun e => if e.1 = k then (e.1, v) else e).lookup q = if q = k then some v else l.lookup q
  | [], h => nomatch h
  | (x, y) :: r, h => by
    rw [List.map_cons]
    by_cases d : x = k
    · subst d
      rw [if_pos rfl]
      by_cases e : q = x
      · subst e; simp [List.lookup]
      · have z : (q == x) = false := beq_eq_false_iff_ne.mpr e
        rw [List.lookup_cons, z, if_neg e, List.lookup_cons, z]
        by_cases c2 : x ∈ ks r
        · have := lk_map (v := v) (q := q) c2
          rw [if_neg e] at this
          exact this
        · have : r.map (fun e => if e.1 = x then (e.1, v) else e) = r := by
            refine (List.map_congr_left fun e he => ?_).trans (List.map_id r)
            rw [if_neg]
            · rfl
            · intro z
              exact c2 (List.mem_map.mpr ⟨e, he, z⟩)
          rw [this]
    · rw [if_neg d]
      have c2 : k ∈ ks r := by
        rcases List.mem_cons.mp h with h | h
        · exact absurd h.symm d
        · exact h
      have := lk_map (v := v) (q := q) c2
      by_cases e : q = x
      · subst e
        rw [if_neg d]
        simp [List.lookup]
      · have h : (q == x) = false := beq_eq_false_iff_ne.mpr e
        rw [List.lookup_cons, h, List.lookup_cons, h]
        exact this
theorem lk_put {l : List (Int × Int)} {k v q : Int} : (putI l k v).lookup q = if q = k then some v else l.lookup q := by
  unfold putI
  by_cases c : k ∈ ks l
  · obtain ⟨x, hx, ex⟩ := List.mem_map.mp c
    rw [if_pos (List.any_eq_true.mpr ⟨x, hx, decide_eq_true ex⟩)]
    exact lk_map c
  · rw [if_neg (fun z => by
      obtain ⟨x, hx, ex⟩ := List.any_eq_true.mp z
      exact c (List.mem_map.mpr ⟨x, hx, of_decide_eq_true ex⟩))]
    by_cases e : q = k
    · subst e
      rw [if_pos rfl, List.lookup_append, lk_none c]
      simp [List.lookup]
    · rw [if_neg e, List.lookup_append]
      have h : (q == k) = false := beq_eq_false_iff_ne.mpr e
      cases f : l.lookup q with
      | none => simp [List.lookup, h]
      | some v => rfl
theorem lk_drop {l : List (Int × Int)} {k q : Int} : (l.filter fun e => decide (e.1 ≠ k)).lookup q = if q = k then none else l.lookup q := by
  induction l with
  | nil => simp [List.lookup]
  | cons a r ih =>
    obtain ⟨x, y⟩ := a
    rw [List.filter_cons]
    by_cases c : x = k
    · subst c
      rw [if_neg (by simp), ih]
      by_cases d : q = x
      · subst d; simp
      · have : (q == x) = false := beq_eq_false_iff_ne.mpr d
        rw [if_neg d, if_neg d, List.lookup_cons, this]
    · rw [if_pos (by simp [c]), List.lookup_cons, List.lookup_cons]
      by_cases d : q = x
      · subst d
        simp [c]
      · have : (q == x) = false := beq_eq_false_iff_ne.mpr d
        rw [this]
        exact ih
/-- what lies there is memory's -/
def LieM (cells : List Int) (lies : List (Int × Int)) : Prop := ∀ q v, lies.lookup q = some v → 0 ≤ q ∧ v = cells.getD q.toNat 0
theorem evs_lie {pl : Int} {B : Int → Prop} {turn : Int} : ∀ {es : Evs} {A : Int → Prop} {s : RunS}, Ch pl A es B → LieM s.cells s.lies → LieM s.cells (es.foldl (evS turn) s).lies
  | [], _, _, _, h => h
  | (w, p) :: es, A, s, hc, h => by
    obtain ⟨hp, hc⟩ := hc
    have z : ∃ A', Ch pl A' es B ∧ LieM s.cells (evS turn s (w, p)).lies := by
      by_cases o : isOut w
      · rw [if_pos o] at hc
        refine ⟨_, hc.2, fun q v e => ?_⟩
        have e2 : (evS turn s (w, p)).lies = s.lies.filter (fun x => decide (x.1 ≠ p)) := if_pos o
        rw [e2, lk_drop] at e
        by_cases c : q = p
        · rw [if_pos c] at e; cases e
        · rw [if_neg c] at e
          exact h q v e
      · rw [if_neg o] at hc
        by_cases i : isIn w
        · rw [if_pos i] at hc
          refine ⟨_, hc, fun q v e => ?_⟩
          have e2 : (evS turn s (w, p)).lies = putI s.lies p (s.cells.getD p.toNat 0) := (if_neg o).trans (if_pos i)
          rw [e2, lk_put] at e
          by_cases c : q = p
          · rw [if_pos c] at e
            cases e
            rw [c]
            exact ⟨hp.1, rfl⟩
          · rw [if_neg c] at e
            exact h q v e
        · rw [if_neg i] at hc
          refine ⟨_, hc, fun q v e => ?_⟩
          have e2 : (evS turn s (w, p)).lies = s.lies := (if_neg o).trans (if_neg i)
          rw [e2] at e
          exact h q v e
    obtain ⟨A', z1, z2⟩ := z
    exact evs_lie (s := evS turn s (w, p)) z1 z2
structure Plain (n : Nat) (mem : List Int) (ds : List Deed) (s : RunS) : Prop where
  l : LieM s.cells s.lies
  a : (s.answers, s.cells) = plainP mem (ds.take n)
theorem deed_plain {c : Cfg} (ok : c.Ok) {n : Nat} {s : RunS} {t : Int} {d : Deed} {mem : List Int} {ds : List Deed} (I : InvD c n s) (hd : Deed.Good c.pl d) (ed : ds[n]? = some d) (Q : Plain n mem ds s) : Plain (n + 1) mem ds (deedS c t d s) := by
  obtain ⟨_, g2, g3⟩ := gone_inv (lt := c.lt) (g := c.g) (s := s.st) ok.r1 I.iv (Deed.pl hd)
  obtain ⟨e1, e2, e3, e4, e5, e6⟩ := evs_run (turn := t) (s := { s with st := (goC c s.st d.1).1 }) (es := (goC c s.st d.1).2) I.ke g2
  have hl := evs_lie (turn := t) (s := { s with st := (goC c s.st d.1).1 }) (es := (goC c s.st d.1).2) g2 Q.l
  have ce := I.ce
  have tk : plainP mem (ds.take (n + 1)) = plainD (plainP mem (ds.take n)) d := by
    rw [List.take_add_one, ed]
    unfold plainP
    rw [List.foldl_append]
    rfl
  unfold deedS
  generalize (goC c s.st d.1).2.foldl (evS t) { s with st := (goC c s.st d.1).1 } = u at e1 e4 e5 hl
  have e4 : u.cells = s.cells := e4
  have e5 : u.answers = s.answers := e5
  have hl2 : LieM u.cells u.lies := by rw [e4]; exact hl
  have pk : d.1 ∈ ks u.lies := (e1 _).mpr g3
  have qa : (u.answers, u.cells) = plainP mem (ds.take n) := by rw [e4, e5]; exact Q.a
  have ce : ((u.cells.length : Nat) : Int) = c.pl := by rw [e4]; exact ce
  obtain ⟨v0, ev0⟩ := look_ks pk
  obtain ⟨l0, l1⟩ := hl2 _ _ ev0
  obtain ⟨p, v⟩ := d
  cases v with
  | none =>
    refine ⟨hl2, ?_⟩
    rw [tk, ← qa]
    show (u.answers ++ [(u.lies.lookup p).getD 0], u.cells) = (u.answers ++ [u.cells.getD p.toNat 0], u.cells)
    rw [show u.lies.lookup p = some v0 from ev0, l1]
    rfl
  | some v =>
    have hp : (0 ≤ p ∧ p < c.pl) ∧ 0 ≤ v ∧ v ≤ 99 := hd
    refine ⟨fun q x e => ?_, ?_⟩
    · have e : (putI u.lies p v).lookup q = some x := e
      show 0 ≤ q ∧ x = (u.cells.set p.toNat v).getD q.toNat 0
      rw [lk_put] at e
      by_cases cq : q = p
      · rw [if_pos cq] at e
        cases e
        subst cq
        refine ⟨hp.1.1, ?_⟩
        rw [List.getD_eq_getElem?_getD, List.getElem?_set_self (by omega)]
        rfl
      · rw [if_neg cq] at e
        obtain ⟨q0, q1⟩ := hl2 q x e
        refine ⟨q0, ?_⟩
        rw [q1, List.getD_eq_getElem?_getD, List.getD_eq_getElem?_getD, List.getElem?_set_ne (by omega)]
    · rw [tk, ← qa]
      rfl
theorem runTo_plain {s : Stg} {g : G} (hs : s.Good) (hg : good 3 g = true) {ds : List Deed} (hd : ∀ d ∈ ds, Deed.Good ((s.mem.length : Nat) : Int) d) : ∀ i, i ≤ ds.length → Plain i s.mem ds (runTo s g ds i)
  | 0, _ => ⟨fun _ _ h => (nomatch h), by rw [List.take_zero]; rfl⟩
  | i + 1, hi => by
    have ih := runTo_plain hs hg hd i (by omega)
    have iv := runTo_inv hs hg hd i (by omega)
    have hi' : i < ds.length := hi
    unfold runTo
    rw [List.getElem?_eq_getElem hi']
    exact deed_plain (cfg_ok hs hg) iv (hd _ (List.getElem_mem hi')) (List.getElem?_eq_getElem hi') ih
end St

namespace St
open PySem PySem.Spec PyProof.Rows L2
abbrev s_need_weights : Stmt := topS 36
abbrev N_need_weights : List Str := ["weights", "one"]
abbrev p_need_weights : List Str := ["weights"]
theorem sc_need_weights : FnScope N_need_weights p_need_weights (defScope s_need_weights) := ⟨rfl, rfl, rfl, by decide +kernel, rfl, by decide +kernel, by decide +kernel⟩
structure Wts where
  a : Int
  b : Int
  c : Int
def Wts.Good (w : Wts) : Prop := (0 ≤ w.a ∧ w.a ≤ 9) ∧ (0 ≤ w.b ∧ w.b ≤ 9) ∧ 0 ≤ w.c ∧ w.c ≤ 9
def IsW (K : PySem.W.Frag) (H : Hp) (p : Addr) (w : Wts) : Prop := SqT K H p [.int w.a, .int w.b, .int w.c]
def weigh (cs : List Int) (w : Wts) : Int := cs.getD 1 0 * w.a + cs.getD 2 0 * w.b + (cs.getD 5 0 + cs.getD 6 0) * w.c
section
variable {P : Program} {w : World} {K : PySem.W.Frag} {mg : Str → Option Value} {base : Heap} {f : Addr} {fd : FuncData}
def spNW (K : PySem.W.Frag) : Sp := fun vs H Q _ => ∃ (p : Addr) (w : Wts), vs = [.ref p] ∧ IsW K H p w ∧ w.Good ∧ ∀ H', Same H H' → Q .non H'
theorem ok_need_weights (T : Nms mg) (hW : ∃ t, mg "MOST_WEIGHT" = some (.int 9 t)) (F : Fun K "need_weights" "need_weights" s_need_weights f fd) : FnOk P w K mg base CX0 1 f fd p_need_weights (spNW K) := by
  refine F.ok sc_need_weights (fun vs H Q E h => ?_) (fun cdv A outer s H vs Q E hr h => ?_)
  · obtain ⟨p, w, rfl, _⟩ := h
    rfl
  obtain ⟨p, w, rfl, hw, ⟨⟨a0, a9⟩, ⟨b0, b9⟩, c0, c9⟩, q⟩ := h
  have hw : SqT K H p [.int w.a, .int w.b, .int w.c] := hw
  refine ⟨_, (pss_one (ps_if (PW.pt (pw_or (pt_cmpR op_ne (pe_callB call_len_seq (by rfl) T.n_len (by decide +kernel) (pa_cons (pv 0) pa_nil)) pe_int (nomark _)) (pw_or1 (pt_cmpR (op_neD hr.units) (pe_lc (own := [("one", 1)]) (g := gName 1) rfl sc_need_weights.nd (pi_tup (pv 0)) (blkOk_by (own := [("one", 1)]) (N := N_need_weights) (sc := defScope s_need_weights) (by decide +kernel)) (fun _ _ _ _ _ => pg_name (i := 1) sc_need_weights.nd rfl (Or.inl rfl)) (fun _ _ _ _ _ => pts_one (pt_not (pt_chain op_le op_le pe_int (pv 1) (pe_gint (by rfl) hW)))) (fun _ _ _ _ _ => (pv 1))) (pe_lst pa_nil) (nomark _)))))
    (pss_one (ps_never))
    (pss_nil))), ?_⟩
  refine ⟨_, rfl, _, _, rfl, .inr hw, rfl, _, rfl, iteB0 rfl ?_⟩
  refine ⟨_, rfl, p, rfl, ⟨_, hw⟩, fun D nD => ?_⟩
  refine lc_tup (xs := [.int w.a, .int w.b, .int w.c]) (fun i H' => Same H H' ∧ H' D = some (.lst [])) ⟨same_upd nD, upd_same⟩ (fun i H' _ h => same_t h.1 hw) (fun i y H' hi h => ?_) (fun H' h => ?_)
  · obtain ⟨x, rfl, gx⟩ : ∃ x : Int, y = .int x ∧ 0 ≤ x ∧ x ≤ 9 := by
      have := List.mem_of_getElem? hi
      simp only [List.mem_cons, List.not_mem_nil, or_false] at this
      rcases this with rfl | rfl | rfl
      · exact ⟨_, rfl, a0, a9⟩
      · exact ⟨_, rfl, b0, b9⟩
      · exact ⟨_, rfl, c0, c9⟩
    and_intros
    refine iteB (decide_eq_true gx.1) ?_
    refine ⟨_, _, rfl, rfl, _, rfl, ?_⟩
    rw [decide_eq_true gx.2]
    exact iteB0 (b := !true) rfl h
  · refine ⟨Nat.zero_le _, fun L nL => ?_⟩
    refine ⟨.list (([] : List Int).map .int), .list (([] : List Int).map .int), dp_ints (sql (same_upd nL _ _ h.2)), dp_ints (sql upd_same), lay_ints [], lay_ints [], ?_⟩
    rw [eqv_ints, decide_eq_true rfl]
    refine ⟨_, rfl, iteB0 (b := !true) rfl ?_⟩
    exact q _ (h.1.trans (same_upd nL))
def spWd (K : PySem.W.Frag) : Sp := fun vs H Q _ => ∃ (k p : Addr) (cs : List Int) (w : Wts), vs = [.ref k, .ref p] ∧ SqT K H k (cs.map V.int) ∧ cs.length = 7 ∧ IsW K H p w ∧ w.Good ∧ Q (.int (weigh cs w)) H
end
end St

namespace St
open PySem PySem.Spec PyProof.Rows L2

end St

namespace St
open PySem PySem.Spec PyProof.Rows L2
end St

namespace St
open PySem PySem.Spec PyProof.Rows L2
end St

namespace St
open PySem PySem.Spec PyProof.Rows L2

def costOf (s : Stg) (ds : List Deed) (w : Wts) (g : G) : Int := weigh (countsP (runTo s g ds ds.length).rows (runTo s g ds ds.length).st) w
def spCost (K : PySem.W.Frag) : Sp := fun vs H Q _ => ∃ (sa ra wp : Addr) (v : V) (s : Stg) (g : G) (as : List Addr) (ds : List Deed) (w : Wts), vs = [.ref sa, v, .ref ra, .ref wp] ∧ IsSet K H sa s ∧ s.Good ∧ IsG K H g v ∧ good 3 g = true ∧ SqL K H ra (as.map V.ref) ∧ PrD K H as ds ∧ (∀ d ∈ ds, Deed.Good ((s.mem.length : Nat) : Int) d) ∧ ds.length ≤ 100 ∧ IsW K H wp w ∧ w.Good ∧
  ∀ H', Same H H' → Q (.int (costOf s ds w g)) H'
end St

namespace St
open PySem PySem.Spec PyProof.Rows L2
/-! ### keys of any depth -/
mutual
/-- the value v is the key k -/
inductive KyN (K : PySem.W.Frag) (H : Hp) : NestedKey → V → Prop
  | non : KyN K H .none .non
  | bl (b : Bool) : KyN K H (.num (if b = true then 1 else 0)) (.bl b)
  | int (i : Int) : KyN K H (.num i) (.int i)
  | str (x : Str) : KyN K H (.text x) (.str x)
  | tup {a : Addr} {xs : List V} {ks : List NestedKey} : SqT K H a xs → KyAll K H ks xs → KyN K H (.tup ks) (.ref a)
inductive KyAll (K : PySem.W.Frag) (H : Hp) : List NestedKey → List V → Prop
  | nil : KyAll K H [] []
  | cons {k : NestedKey} {ks : List NestedKey} {v : V} {vs : List V} : KyN K H k v → KyAll K H ks vs → KyAll K H (k :: ks) (v :: vs)
end
mutual
theorem KyN.imm {K : PySem.W.Frag} {H H' : Hp} (e : Imm H H') : ∀ {k : NestedKey} {v : V}, KyN K H k v → KyN K H' k v
  | _, _, .non => .non
  | _, _, .bl b => .bl b
  | _, _, .int i => .int i
  | _, _, .str x => .str x
  | _, _, .tup h a => .tup (e.t h) (KyAll.imm e a)
theorem KyAll.imm {K : PySem.W.Frag} {H H' : Hp} (e : Imm H H') : ∀ {k : List NestedKey} {v : List V}, KyAll K H k v → KyAll K H' k v
  | _, _, .nil => .nil
  | _, _, .cons h t => .cons (KyN.imm e h) (KyAll.imm e t)
end
section
variable {X : Cx} {pins : List (Addr × Obj)} {σ : L2.St} {H : Hp} {s : Shared}
mutual
theorem KyN.is (I : Inv X pins σ H s) : ∀ (k : NestedKey) (v : V) (u : Value), KyN X.K H k v → RelV v u → NestedIs s.heap k u
  | .none, _, _, h, r => by
    cases h
    cases r
    exact .none
  | .num i, _, _, h, r => by
    cases h with
    | bl b =>
      cases r
      exact .bool rfl
    | int i =>
      obtain ⟨t, rfl⟩ := r
      exact .int _ _
  | .text x, _, _, h, r => by
    cases h
    obtain ⟨t, rfl⟩ := r
    exact .text _ _
  | .tup ks, _, _, h, r => by
    cases h with
    | tup hs ha =>
      cases r
      obtain ⟨its, rv, ⟨o, ho, hc, n, hd⟩, _⟩ := I.tuple hs
      exact .tup ho hc hd (by simpa using KyAll.is I ks _ its ha rv)
theorem KyAll.is (I : Inv X pins σ H s) : ∀ (ks : List NestedKey) (vs : List V) (us : List Value), KyAll X.K H ks vs → Vals vs us → NestedAll s.heap ks us
  | [], _, _, h, r => by
    cases h
    cases r
    exact .nil
  | k :: ks, _, _, h, r => by
    cases h with
    | cons h1 h2 =>
      cases r with
      | cons r1 r2 => exact .cons (KyN.is I k _ _ h1 r1) (KyAll.is I ks _ _ h2 r2)
end
end
/-! ### a dict of such keys -/
abbrev NE := NestedKey × Addr × V
def NR : List NE → List (NestedKey × Addr × Value) → Prop := Paired fun p q => p.1 = q.1 ∧ p.2.1 = q.2.1 ∧ RelV p.2.2 q.2.2
def phN (P : Program) (w : World) (a : Addr) (xs : List NE) : Heap → Prop := fun h => xs.length ≤ sizeLine ∧ (a == sysModules) = false ∧ ∃ ys, NR xs ys ∧
  ∃ o es ep, h.get? a = some o ∧ o.ExactDict ∧ o.data = .dict es ep ∧ es.toList = ys.map (entryOfKey (nestedKind P w)) ∧ (ys.map (·.1)).Nodup
/-- the dict at a, its entries: key, the key's own tuple, value -/
def oN (P : Program) (w : World) (a : Addr) (xs : List NE) : HO := .ext (phN P w a xs)
def KsN (K : PySem.W.Frag) (H : Hp) (xs : List NE) : Prop := ∀ x ∈ xs, KyN K H x.1 (.ref x.2.1) ∧ x.1.depth ≤ 8
theorem KsN.imm {K : PySem.W.Frag} {H H' : Hp} {xs : List NE} (h : KsN K H xs) (e : Imm H H') : KsN K H' xs := fun x m => ⟨(h x m).1.imm e, (h x m).2⟩
def atN (xs : List NE) (k : NestedKey) : Option V := (xs.find? fun x => decide (x.1 = k)).map (·.2.2)
def putN (xs : List NE) (k : NestedKey) (b : Addr) (v : V) : List NE := if (atN xs k).isSome then xs.map (fun x => if x.1 = k then (x.1, x.2.1, v) else x) else xs ++ [(k, b, v)]
theorem NR.at_ {xs : List NE} {ys : List (NestedKey × Addr × Value)} (r : NR xs ys) (k : NestedKey) : RelO (atN xs k) ((atKey ys k).map (·.2)) := by
  unfold NR at r
  induction r with
  | nil => exact True.intro
  | @cons p q ps qs h t ih =>
    obtain ⟨h1, h2, h3⟩ := h
    by_cases e : p.1 = k
    · have e' : q.1 = k := h1.symm.trans e
      have a1 : atN (p :: ps) k = some p.2.2 := by simp [atN, List.find?_cons, e]
      have a2 : atKey (q :: qs) k = some q.2 := by simp [atKey, List.find?_cons, e']
      rw [a1, a2]
      exact h3
    · have e' : ¬ q.1 = k := fun z => e (h1.trans z)
      have a1 : atN (p :: ps) k = atN ps k := by simp [atN, List.find?_cons, e]
      have a2 : atKey (q :: qs) k = atKey qs k := by simp [atKey, List.find?_cons, e']
      rw [a1, a2]
      exact ih
theorem NR.repl {xs : List NE} {ys : List (NestedKey × Addr × Value)} (r : NR xs ys) (k : NestedKey) {v : V} {u : Value} (ru : RelV v u) :
    NR (xs.map (fun x => if x.1 = k then (x.1, x.2.1, v) else x)) (ys.map (putAt k u)) := by
  unfold NR at r ⊢
  induction r with
  | nil => exact .nil
  | @cons p q ps qs h t ih =>
    rw [List.map_cons, List.map_cons]
    refine .cons ?_ ih
    obtain ⟨h1, h2, h3⟩ := h
    unfold putAt
    by_cases e : p.1 = k
    · rw [if_pos e, if_pos (h1.symm.trans e)]; exact ⟨h1, h2, ru⟩
    · rw [if_neg e, if_neg (fun z => e (h1.trans z))]; exact ⟨h1, h2, h3⟩
theorem NR.put {xs : List NE} {ys : List (NestedKey × Addr × Value)} (r : NR xs ys) (k : NestedKey) (b : Addr) {v : V} {u : Value} (ru : RelV v u) : NR (putN xs k b v) (storedH ys k b u) := by
  have e : (atN xs k).isSome = (atKey ys k).isSome := by
    rw [(r.at_ k).isSome_eq, Option.isSome_map]
  unfold putN storedH
  rw [e]
  by_cases q : (atKey ys k).isSome = true
  · rw [if_pos q, if_pos q]; exact r.repl k ru
  · rw [if_neg q, if_neg q]; exact Paired.snoc r ⟨rfl, rfl, ru⟩
theorem length_putN (xs : List NE) (k : NestedKey) (b : Addr) (v : V) : (putN xs k b v).length ≤ xs.length + 1 := by
  unfold putN
  split
  · rw [List.length_map]; omega
  · rw [List.length_append, List.length_cons, List.length_nil]; omega
section
variable {X : Cx} {pins : List (Addr × Obj)} {σ : L2.St} {H : Hp} {s : Shared} {a : Addr} {xs : List NE}
theorem oN_rd (I : Inv X pins σ H s) (e : Rd H a (oN X.prog X.w a xs)) (ks : KsN X.K H xs) : xs.length ≤ sizeLine ∧ (a == sysModules) = false ∧ ∃ ys, NR xs ys ∧ s.heap.DictOfH (nestedKind X.prog X.w) a ys := by
  obtain ⟨⟨z, y, ys, r, o, es, ep, h1, h2, h3, h4, h5⟩, _⟩ := (show ObjOk X.prog X.w H s.heap a (oN X.prog X.w a xs) from e.ok I.hok)
  refine ⟨z, y, ys, r, o, es, ep, h1, h2, h3, h4, fun x hx => ?_, h5⟩
  have all : ∀ {l : List NE} {m : List (NestedKey × Addr × Value)}, NR l m → KsN X.K H l → ∀ x ∈ m, (nestedKind X.prog X.w).is s.heap x.1 x.2.1 := by
    intro l m q
    unfold NR at q
    induction q with
    | nil => intro _ x hx; exact nomatch hx
    | @cons p q ps qs hq t ih =>
      intro kl x hx
      rcases List.mem_cons.mp hx with e | hx
      · subst e
        have k0 := kl p List.mem_cons_self
        obtain ⟨e1, e2, _⟩ := hq
        rw [e1, e2] at k0
        exact ⟨KyN.is I _ _ _ k0.1 rfl, k0.2⟩
      · exact ih (fun y hy => kl y (List.mem_cons_of_mem _ hy)) x hx
  exact all r ks x hx
theorem phN_of {P : Program} {w : World} {h : Heap} {xs : List NE} {ys : List (NestedKey × Addr × Value)} (z : xs.length ≤ sizeLine) (y : (a == sysModules) = false) (r : NR xs ys) (d : h.DictOfH (nestedKind P w) a ys) {H' : Hp} : ObjOk P w H' h a (oN P w a xs) := by
  obtain ⟨o, es, ep, h1, h2, h3, h4, _, h5⟩ := d
  exact ⟨⟨z, y, ys, r, o, es, ep, h1, h2, h3, h4, h5⟩, ⟨o, h1⟩, fun h1' h2' ⟨z, y, ys, r, o, es, ep, h1, h2⟩ k => ⟨z, y, ys, r, o, es, ep, k _ h1, h2⟩⟩
end
/-! ### rules -/
def tNIn (ty td : TE) (P : Program) (w : World) (K : PySem.W.Frag) (n : Bool) : TE := fun σ H Q => ty σ H fun y H1 => td σ H1 fun x H2 => ∃ a b k xs, x = .ref a ∧ y = .ref b ∧ Rd H2 a (oN P w a xs) ∧ KsN K H2 xs ∧ KyN K H2 k (.ref b) ∧ k.depth ≤ 8 ∧ Q (.bl (n != (atN xs k).isSome)) H2
def tNGet (td ty : TE) (P : Program) (w : World) (K : PySem.W.Frag) : TE := fun σ H Q => td σ H fun x H1 => ty σ H1 fun y H2 => ∃ a b k xs v, x = .ref a ∧ y = .ref b ∧ Rd H2 a (oN P w a xs) ∧ KsN K H2 xs ∧ KyN K H2 k (.ref b) ∧ k.depth ≤ 8 ∧ atN xs k = some v ∧ Q v H2
def sNPut (td ty tv : TE) (P : Program) (w : World) (K : PySem.W.Frag) : TS := fun D σ H => tv σ H fun v H1 => td σ H1 fun x H2 => ty σ H2 fun y H3 => ∃ a b k xs, x = .ref a ∧ y = .ref b ∧ H3 a = some (oN P w a xs) ∧ KsN K H3 xs ∧ KyN K H3 k (.ref b) ∧ k.depth ≤ 8 ∧ xs.length < sizeLine ∧ D.nx σ (upd H3 a (oN P w a (putN xs k b v)))
def tNNew (P : Program) (w : World) : TE := fun _ H Q => ∀ p, H p = none → Q (.ref p) (upd H p (oN P w p []))
section
variable {X : Cx} {o i e value : Expr} {pos pos' tpos : Pos} {td ty tv : TE}
theorem nst_room {A : Around} (hu : A.units + 9 < cLine) {P : Program} {w : World} : (nestedKind P w).room A.in1 := by
  show A.in1.units + 8 < cLine
  simp only [Around.in1_units]
  omega
theorem oN_typeIs {pins : List (Addr × Obj)} {σ : L2.St} {H : Hp} {s : Shared} {a : Addr} {xs : List NE} (I : Inv X pins σ H s) (e : Rd H a (oN X.prog X.w a xs)) (ks : KsN X.K H xs) : s.TypeIs (.ref a) "dict" := by
  obtain ⟨_, _, ys, _, d⟩ := oN_rd I e ks
  exact d.typeIs
theorem pc_nin (hu : X.A.units + 9 < cLine) (hi : PE X i ty) (ho : PE X o td) : PC X .In i o (tNIn ty td X.prog X.w X.K false) := by
  refine ⟨fun pins s σ H Q I h => ?_⟩
  refine thn (hi.run pins s σ H _ I h) fun iv s1 ⟨y, H1, I1, ry, q1⟩ => thn (ho.run pins s1 σ H1 _ I1 q1) fun u s2 ⟨x, H2, I2, rx, a, b, k, xs, ex, ey, rd, ks, ky, kd, q2⟩ => ?_
  subst ex ey
  obtain rfl : u = Value.ref a := rx
  cases (show iv = Value.ref b from ry)
  obtain ⟨z, hd, ys, rel, dd⟩ := oN_rd I2 rd ks
  refine wpAny_in_heap (k := k) (nst_room hu) ⟨KyN.is I2 _ _ _ ky rfl, kd⟩ hd dd ⟨_, H2, I2.tok _, ?_, q2⟩
  have q := (rel.at_ k).isSome_eq
  rw [Option.isSome_map] at q
  rw [← q]
  simp
  rfl
theorem pc_nnotin (hu : X.A.units + 9 < cLine) (hi : PE X i ty) (ho : PE X o td) : PC X .NotIn i o (tNIn ty td X.prog X.w X.K true) := by
  refine ⟨fun pins s σ H Q I h => ?_⟩
  refine thn (hi.run pins s σ H _ I h) fun iv s1 ⟨y, H1, I1, ry, q1⟩ => thn (ho.run pins s1 σ H1 _ I1 q1) fun u s2 ⟨x, H2, I2, rx, a, b, k, xs, ex, ey, rd, ks, ky, kd, q2⟩ => ?_
  subst ex ey
  obtain rfl : u = Value.ref a := rx
  cases (show iv = Value.ref b from ry)
  obtain ⟨z, hd, ys, rel, dd⟩ := oN_rd I2 rd ks
  refine wpAny_notIn_heap (k := k) (nst_room hu) ⟨KyN.is I2 _ _ _ ky rfl, kd⟩ hd dd ⟨_, H2, I2.tok _, ?_, q2⟩
  have q := (rel.at_ k).isSome_eq
  rw [Option.isSome_map] at q
  rw [← q]
  simp
  rfl
theorem pe_nget (hu : X.A.units + 9 < cLine) (ho : PE X o td) (hi : PE X i ty) (hs : NoSl i) : PE X (.Subscript o i pos) (tNGet td ty X.prog X.w X.K) := by
  refine ⟨fun pins s σ H Q I h => ?_⟩
  refine subD_of PySem.F.slot_dict_getitem.lookup hs (thn (ho.run pins s σ H _ I h) fun u s1 ⟨x, H1, I1, rx, q1⟩ => thn (hi.run pins s1 σ H1 _ I1 q1) fun iv s2 ⟨y, H2, I2, ry, a, b, k, xs, v, ex, ey, rd, ks, ky, kd, l, q2⟩ => ?_)
  subst ex ey
  obtain rfl : u = Value.ref a := rx
  cases (show iv = Value.ref b from ry)
  obtain ⟨z, hd, ys, rel, dd⟩ := oN_rd I2 rd ks
  obtain ⟨w', hw, rw'⟩ := RelO.some_of (v := v) (o := (atKey ys k).map (·.2)) (by rw [← l]; exact rel.at_ k)
  obtain ⟨p, hp, hp2⟩ := Option.map_eq_some_iff.mp hw
  refine ⟨dd.typeIs, wpAny_getItem_heap (nst_room hu) ⟨KyN.is I2 _ _ _ ky rfl, kd⟩ dd hp ?_⟩
  rw [hp2]
  exact ⟨v, H2, I2.tok _, rw', q2⟩
theorem ps_nput (hu : X.A.units + 9 < cLine) (ho : PE X o td) (hi : PE X i ty) (hv : PE X value tv) (hs : swapsWith value (some (.Subscript o i pos')) pos.line X.env = pure false) :
    PS X (.Assign [.Subscript o i pos'] value pos) (sNPut td ty tv X.prog X.w X.K) := by
  refine ⟨fun pins s σ H D I h => ?_⟩
  refine wpAny_Assign_Subscript (thn (hv.run pins s σ H _ I h) fun r s1 ⟨v, H1, I1, rv, q1⟩ => thn (ho.run pins s1 σ H1 _ I1 q1) fun u s2 ⟨x, H2, I2, rx, q2⟩ => thn (hi.run pins s2 σ H2 _ I2 q2) fun iv s3 ⟨y, H3, I3, ry, a, b, k, xs, ex, ey, rd, ks, ky, kd, l, q3⟩ => ?_) hs
  subst ex ey
  obtain rfl : u = Value.ref a := rx
  cases (show iv = Value.ref b from ry)
  obtain ⟨z, hd, ys, rel, dd⟩ := oN_rd I3 (.inl rd) ks
  have hz : ys.length ≤ sizeLine := by rw [← Paired.length rel]; exact z
  have hl : (putN xs k b v).length ≤ sizeLine := by have := length_putN xs k b v; omega
  refine wpAny_setItem_heap (hsz := hz) (nst_room hu) ⟨KyN.is I3 _ _ _ ky rfl, kd⟩ dd fun h' dd' hs' => ⟨σ, _, ?_, q3⟩
  have he : ∃ q, h'.get? a = some q := let ⟨q, _, _, hq, _⟩ := dd'; ⟨q, hq⟩
  exact d_write I3 (by rw [rd]; exact True.intro) hs' he (phN_of hl hd (rel.put k b rv) dd')
theorem on_empty {P : Program} {w : World} {H : Hp} (h : Heap) (hb : sysModules < h.objs.size) : ObjOk P w H (h.push { cls := .type "dict", data := .dict #[] }) h.objs.size (oN P w h.objs.size []) :=
  phN_of (Nat.zero_le _) (beq_eq_false_iff_ne.mpr (Ne.symm (Nat.ne_of_lt hb))) .nil (Heap.DictOfH.new h)
theorem pe_nnew : PE X (.Dict [] [] pos) (tNNew X.prog X.w) := ⟨fun pins s σ H Q I h =>
  wpAny_Dict_empty ⟨.ref s.heap.objs.size, _, I.laid (a := s.heap.objs.size) (t' := s.toks) (fun _ _ q => Heap.get?_push_of_some _ q) (Nat.le_refl _) (on_empty s.heap I.big), rfl, h _ (I.hok.fresh (Nat.le_refl _))⟩⟩
/-- {k: v}; the new dict stands empty while they are made -/
def tNDisp (tk tv : TE) (P : Program) (w : World) (K : PySem.W.Frag) : TE := fun σ H Q => ∀ p, H p = none → tk σ (upd H p (oN P w p [])) fun x H1 => tv σ H1 fun v H2 => ∃ b k, x = .ref b ∧ H2 p = some (oN P w p []) ∧ KyN K H2 k (.ref b) ∧ k.depth ≤ 8 ∧ Q (.ref p) (upd H2 p (oN P w p [(k, b, v)]))
theorem pe_ndisp {k v : Expr} {tk : TE} (hu : X.A.units + 9 < cLine) (hk : PE X k tk) (hv : PE X v tv) : PE X (.Dict [some k] [v] pos) (tNDisp tk tv X.prog X.w X.K) := by
  refine ⟨fun pins s σ H Q I q => ?_⟩
  have hn := I.hok.fresh (Nat.le_refl s.heap.objs.size)
  have I1 := I.laid (a := s.heap.objs.size) (o := oN X.prog X.w s.heap.objs.size []) (h' := s.heap.push { cls := .type "dict", data := .dict #[] }) (t' := s.toks) (fun _ _ q => Heap.get?_push_of_some _ q) (Nat.le_refl _) (on_empty s.heap I.big)
  have q := q _ hn
  rw [arm_eval_Dict]
  have hn' := pairTrees_length [some k] [v] X.env pos rfl rfl
  have hz := zip_pairTrees [some k] [v] X.env pos rfl rfl
  rw [hz, dictDisplay_pairs (pairTrees [some k] [v] X.env pos) (fun z => by rw [z] at hn'; cases hn') (by rw [hn']; exact (show 1 < 17 by omega))]
  refine wpAny_bind (wpAny_standAt (wpAny_bind (wpAny_subDictH (knd := nestedKind X.prog X.w) (Q := fun d s' => wpAny (model X.prog X.w) X.A (pure (Value.ref d)) _ X.xe s') (show X.A.units + 8 < cLine by omega) (by rw [hn']; exact (show 1 ≤ 15 by omega)) ?_)))
  refine pairTrees_cons_walk (thn (hk.run pins _ σ _ _ I1 q) fun u s1 ⟨x, H1, I2, rx, q1⟩ => thn (hv.run pins s1 σ H1 _ I2 q1) fun w2 s2 ⟨y, H2, I3, ry, b, kk, ex, e, ky, kd, q2⟩ => pairTrees_nil_walk ?_)
  subst ex
  obtain rfl : u = Value.ref b := rx
  obtain ⟨z, hd, ys, rel, dd⟩ := oN_rd I3 (.inl e) (fun _ m => nomatch m)
  cases rel
  refine ⟨[(kk, b, w2)], ⟨rfl, rfl, ⟨KyN.is I3 _ _ _ ky rfl, kd⟩, True.intro⟩, dd, fun h' tk a c => wpAny_pure ⟨.ref s.heap.objs.size, _, ?_, rfl, q2⟩⟩
  have he : ∃ q, h'.get? s.heap.objs.size = some q := let ⟨q, _, _, hq, _⟩ := a; ⟨q, hq⟩
  refine d_write I3 (by rw [e]; exact True.intro) c he (phN_of (ys := [(kk, b, w2)]) (by show 1 ≤ sizeLine; decide) hd (.cons ⟨rfl, rfl, ry⟩ .nil) a)
end
/-! ### for k in d, the dict locked -/
def ItN (P : Program) (w : World) (d : Addr) (o : Obj) (xs : List NE) : It :=
  ⟨fun i H => H d = some (.frz o (oN P w d xs)) ∧ i < xs.length, fun i H x H' => H' = H ∧ ∃ k v b, xs[i]? = some (k, b, v) ∧ x = .ref b, fun i H => H d = some (.frz o (oN P w d xs)) ∧ xs.length ≤ i⟩
section
variable {X : Cx} {pins : List (Addr × Obj)} {σ : L2.St} {H : Hp} {s : Shared} {d : Addr} {o : Obj} {xs : List NE}
theorem Inv.frzN (I : Inv X pins σ H s) (h : H d = some (.frz o (oN X.prog X.w d xs))) :
    (d == sysModules) = false ∧ s.heap.get? d = some o ∧ o.ExactDict ∧ ∃ (es : Array DictEntry) (ep : Nat), o.data = .dict es ep ∧ es.size = xs.length ∧
      ∀ (i : Nat) (k : NestedKey) (b : Addr) (v : V), xs[i]? = some (k, b, v) → ∃ en : DictEntry, es[i]? = some en ∧ en.key = .ref b := by
  obtain ⟨hd, ⟨z, hs, ys, pr, o', es, ep, ho, hx, hdt, he, _⟩, _⟩ := I.hok d _ h
  rw [hd] at ho
  cases ho
  refine ⟨hs, hd, hx, es, ep, hdt, ?_, fun i k b v e => ?_⟩
  · have l1 : es.size = ys.length := size_of_entries he
    have l2 : xs.length = ys.length := Paired.length pr
    omega
  · obtain ⟨y, hy, e1, e2, _⟩ := paired_get pr e
    have q := entry_at he i
    rw [hy] at q
    refine ⟨_, q, ?_⟩
    show Value.ref y.2.1 = _
    rw [← e2]
theorem turn_keysN {P : Program} {w : World} {K : PySem.W.Frag} {tg : Expr} {es : Array DictEntry} {ep : Nat} (it : Addr) (hod : o.data = .dict es ep) : Turn P w K tg (ItN P w d o xs) [it] it (fun i h => h.IsKeyIter it d i xs.length ep) where
  mem := by simp
  obj := fun i h st b hb => by
    have e : b = it := by simpa using hb
    subst e
    obtain ⟨oi, e, c, dd⟩ := st
    exact ⟨oi, e, fun v z => by rw [dd] at z; cases z⟩
  keep := fun i h h' st k => st.at fun oi e => k it (by simp) oi e
  item := by
    intro X hP hw hK hc i pins s σ H E I hf st hg
    subst hP hw hK
    obtain ⟨hd, hi⟩ := hg
    obtain ⟨f0, f1, f2, f3, f4, f5⟩ := hf it (by simp)
    obtain ⟨hs, hgd, hx, es', ep', hdt, hsz, ent⟩ := Inv.frzN I hd
    obtain ⟨rfl, rfl⟩ := dict_ep hod hdt
    obtain ⟨⟨k, b, v⟩, hkv⟩ : ∃ p, xs[i]? = some p := ⟨xs[i], List.getElem?_eq_getElem hi⟩
    obtain ⟨en, hen, hkey⟩ := ent i k b v hkv
    refine next_key_item st hgd hdt hsz hen fun h' st' sb => ?_
    have I1 : Inv X pins σ H { s with heap := h' } := I.turned (t' := s.toks) (fun b ob hb e => (sb.2 b hb).trans e) f0 f1 f3 f4 f5
    obtain ⟨oi, e, c, dd⟩ := id st'
    exact ⟨en.key, rfl, go_of (s := { s with heap := h' }) e c dd (by decide) ⟨.ref b, H, I1, hkey, ⟨rfl, k, v, b, hkv, rfl⟩, st', fun b hb => (hf b hb).1⟩⟩
  done := by
    intro X hP hw hK hc i pins s σ H E I hf st hg
    subst hP hw hK
    obtain ⟨hd, hi⟩ := hg
    obtain ⟨f0, f1, f2, f3, f4, f5⟩ := hf it (by simp)
    obtain ⟨hs, hgd, hx, es', ep', hdt, hsz, ent⟩ := Inv.frzN I hd
    obtain ⟨rfl, rfl⟩ := dict_ep hod hdt
    exact next_key_end (I.ok.hd hc) st hgd hdt hsz hi fun h' eb => ⟨rfl, I.turned (t' := s.toks) (fun b ob hb e => eb b ob hb e) f0 f1 f3 f4 f5⟩
  self := fun A i s Q E st h => by
    refine wpAny_pyIter_slot st.typeIs F.slot_dict_keyiterator_iter (wpAny_call_entry F.slot_dict_keyiterator_iter st.typeIs F.entry_dict_keyiterator_iter ?_ (F.args_dict_keyiterator_iter_1 _))
    show wpAny _ _ (ret (.ref it)) _ _ s
    exact wpAny_pure ⟨_, rfl, "dict_keyiterator", _, st.typeIs, F.slot_dict_keyiterator_next.lookup, h⟩
end
def iKeysN (td : TE) (P : Program) (w : World) : TI := fun σ H R => td σ H fun x H1 => ∃ d o xs, x = .ref d ∧ H1 d = some (.frz o (oN P w d xs)) ∧ R (ItN P w d o xs) H1
theorem pi_keysN {X : Cx} {tg e : Expr} {td : TE} (he : PE X e td) : PI X tg e (iKeysN td X.prog X.w) := by
  refine ⟨fun pins s σ H R I h => ?_⟩
  refine thn (he.run pins s σ H _ I h) fun u s1 ⟨x, H1, I1, rx, d, o, xs, ex, hd, q⟩ => ?_
  subst ex
  obtain rfl : u = Value.ref d := rx
  obtain ⟨hs, hgd, hx, es, ep, hdt, hsz, ent⟩ := Inv.frzN I1 hd
  refine iter_keys hs hgd hx hdt (pi_one (tk := s1.toks) I1 _ (turn_keysN _ hdt) ⟨_, Heap.get?_push_size _ rfl, rfl, ?_⟩ q)
  rw [hsz] <;> rfl
/-! ### pairs of a number and a list, in order -/
def toDP (p : Int × List Int) : PyData := PySem.W.Datum.toD p
def rLtD (K : PySem.W.Frag) : R2 := fun x y H Q => ∃ p q : Int × List Int, Dp K H x (toDP p) ∧ Dp K H y (toDP q) ∧ Q (.bl (PySem.W.DatumOrd.lt p q)) H
theorem op_ltD {X : Cx} (hu : X.A.units + 9 < cLine) : OpR X (compareOp .Lt) (rLtD X.K) := by
  intro pins s σ H x y v u Q I rx ry h
  obtain ⟨p, q, hp, hq, k⟩ := h
  have h1 := Dp.reads I _ x v hp rx
  have h2 := Dp.reads I _ y u hq ry
  exact PySem.W.lt_datum (x := p) (y := q) h1 h2 (by have : PySem.W.Datum.depth (Int × List Int) = 2 := rfl; omega) ⟨.bl _, H, I, rfl, k⟩
def rMinD (K : PySem.W.Frag) : List V → Hp → VK → Prop := fun vs H Q => ∃ (a : Addr) (xs : List V) (x : Int × List Int) (ts : List (Int × List Int)), vs = [.ref a] ∧ SqL K H a xs ∧ DpAll K H xs ((x :: ts).map toDP) ∧
  ∀ v (i : Nat), xs[i]? = some v → (x :: ts)[i]? = some (PySem.W.minOf x ts) → Q v H
theorem toDP_inj {p q : Int × List Int} (h : toDP p = toDP q) : p = q := by
  have h : PyData.tuple [.int p.1, .list (p.2.map PyData.int)] = PyData.tuple [.int q.1, .list (q.2.map PyData.int)] := h
  injection h with h
  injection h with h1 h2
  injection h1 with h1
  injection h2 with h2
  injection h2 with h2
  refine Prod.ext h1 ?_
  have : ∀ {l m : List Int}, l.map PyData.int = m.map PyData.int → l = m := by
    intro l
    induction l with
    | nil => intro m h; cases m with
      | nil => rfl
      | cons => nomatch h
    | cons a l ih => intro m h; cases m with
      | nil => nomatch h
      | cons b m =>
        rw [List.map_cons, List.map_cons] at h
        injection h with h1 h2
        injection h1 with h1
        rw [h1, ih h2]
  exact this h2
theorem reads_all_at {h : Heap} : ∀ {us : List Value} {ds : List PyData} {as : List Addr} {i : Nat} {u : Value}, ReadsAll h us ds as → us[i]? = some u → ∃ d bs, ds[i]? = some d ∧ Reads h u d bs
  | _, _, _, 0, _, .cons h _, e => by cases Option.some.inj e; exact ⟨_, _, rfl, h⟩
  | _, _, _, i + 1, _, .cons _ t, e => by
    obtain ⟨d, bs, h1, h2⟩ := reads_all_at (i := i) t e
    exact ⟨d, bs, h1, h2⟩
  | _, _, _, 0, _, .nil, e => nomatch e
  | _, _, _, _ + 1, _, .nil, e => nomatch e
theorem dp_all_at {K : PySem.W.Frag} {H : Hp} : ∀ {us : List V} {ds : List PyData} {i : Nat} {u : V}, DpAll K H us ds → us[i]? = some u → ∃ d, ds[i]? = some d ∧ Dp K H u d
  | _, _, 0, _, .cons h _, e => by cases Option.some.inj e; exact ⟨_, rfl, h⟩
  | _, _, i + 1, _, .cons _ t, e => dp_all_at (i := i) t e
  | _, _, 0, _, .nil, e => nomatch e
  | _, _, _ + 1, _, .nil, e => nomatch e

theorem vals_at' : ∀ {xs : List V} {us : List Value} {i : Nat} {u : Value}, Vals xs us → us[i]? = some u → ∃ x, xs[i]? = some x ∧ RelV x u
  | _, _, 0, _, .cons h _, e => by cases Option.some.inj e; exact ⟨_, rfl, h⟩
  | _, _, i + 1, _, .cons _ t, e => vals_at' (i := i) t e
  | _, _, 0, _, .nil, e => nomatch e
  | _, _, _ + 1, _, .nil, e => nomatch e
theorem cr_minD {X : Cx} (hc : X.calm = true) (hu : X.A.units + 9 < cLine) : CallR X (.builtin "min") (rMinD X.K) := by
  intro pins s σ H vs us Q I r h
  obtain ⟨a, xs, x, ts, rfl, hs, hd, q⟩ := h
  obtain ⟨its, rv, hl, _⟩ := I.list hs
  rw [Vals.ref1 r]
  obtain ⟨as, ra⟩ := Dp.readsAll I _ _ _ hd rv
  refine PySem.W.min_list_datum (x := x) (xs := ts) (I.ok.hd hc) hl.isList ⟨as, by rw [List.toList_toArray]; exact ra⟩ (by have : PySem.W.Datum.depth (Int × List Int) = 2 := rfl; omega) fun i v h' tk hi hh hk => ?_
  have I1 : Inv X pins σ H { s with heap := h', toks := tk } := I.kept (t' := tk) hk
  have hi' : its[i]? = some v := by simpa using hi
  obtain ⟨y, hy, ry⟩ := vals_at' rv hi'
  obtain ⟨d, e, dp⟩ := dp_all_at hd hy
  obtain ⟨bs, rb⟩ := Dp.reads I _ _ _ dp ry
  obtain ⟨cs, rc⟩ := hh
  have u := (PyProof.Rows.Reads.keeps hk rb).unique _ _ rc
  have e := e.trans (congrArg some (show d = toDP (PySem.W.minOf x ts) from u.1))
  rw [List.getElem?_map] at e
  obtain ⟨z, e1, e2⟩ := Option.map_eq_some_iff.mp e
  exact ⟨y, H, I1, ry, q y i hy (e1.trans (congrArg some (toDP_inj e2)))⟩
/-! ### the same with the program and the frag told -/
section
variable {X : Cx} {o i e value : Expr} {pos pos' tpos : Pos} {td ty tv : TE} {P : Program} {w : World} {K : PySem.W.Frag}
theorem pc_ninK (hu : X.A.units + 9 < cLine) (hi : PE X i ty) (ho : PE X o td) (h1 : X.prog = P := by rfl) (h2 : X.w = w := by rfl) (h3 : X.K = K := by rfl) : PC X .In i o (tNIn ty td P w K false) := by subst h1 h2 h3; exact pc_nin hu hi ho
theorem pc_nnotinK (hu : X.A.units + 9 < cLine) (hi : PE X i ty) (ho : PE X o td) (h1 : X.prog = P := by rfl) (h2 : X.w = w := by rfl) (h3 : X.K = K := by rfl) : PC X .NotIn i o (tNIn ty td P w K true) := by subst h1 h2 h3; exact pc_nnotin hu hi ho
theorem pe_ngetK (hu : X.A.units + 9 < cLine) (ho : PE X o td) (hi : PE X i ty) (hs : NoSl i) (h1 : X.prog = P := by rfl) (h2 : X.w = w := by rfl) (h3 : X.K = K := by rfl) : PE X (.Subscript o i pos) (tNGet td ty P w K) := by subst h1 h2 h3; exact pe_nget hu ho hi hs
theorem ps_nputK (hu : X.A.units + 9 < cLine) (ho : PE X o td) (hi : PE X i ty) (hv : PE X value tv) (hs : swapsWith value (some (.Subscript o i pos')) pos.line X.env = pure false) (h1 : X.prog = P := by rfl) (h2 : X.w = w := by rfl) (h3 : X.K = K := by rfl) :
    PS X (.Assign [.Subscript o i pos'] value pos) (sNPut td ty tv P w K) := by subst h1 h2 h3; exact ps_nput hu ho hi hv hs
theorem pe_nnewK (h1 : X.prog = P := by rfl) (h2 : X.w = w := by rfl) : PE X (.Dict [] [] pos) (tNNew P w) := by subst h1 h2; exact pe_nnew
theorem pe_ndispK {k v : Expr} {tk : TE} (hu : X.A.units + 9 < cLine) (hk : PE X k tk) (hv : PE X v tv) (h1 : X.prog = P := by rfl) (h2 : X.w = w := by rfl) (h3 : X.K = K := by rfl) : PE X (.Dict [some k] [v] pos) (tNDisp tk tv P w K) := by subst h1 h2 h3; exact pe_ndisp hu hk hv
theorem pi_keysNK {tg e : Expr} {td : TE} (he : PE X e td) (h1 : X.prog = P := by rfl) (h2 : X.w = w := by rfl) : PI X tg e (iKeysN td P w) := by subst h1 h2; exact pi_keysN he
theorem op_ltDK (hu : X.A.units + 9 < cLine) (h3 : X.K = K := by rfl) : OpR X (compareOp .Lt) (rLtD K) := by subst h3; exact op_ltD hu
theorem cr_minDK (hc : X.calm = true) (hu : X.A.units + 9 < cLine) (h3 : X.K = K := by rfl) : CallR X (.builtin "min") (rMinD K) := by subst h3; exact cr_minD hc hu
end
end St

namespace St
open PySem PySem.Spec PyProof.Rows L2
/-! ### states as keys -/
def kOpt : Option Int → NestedKey
  | none => .none
  | some i => .num i
def kB (b : Bool) : NestedKey := .num (if b = true then 1 else 0)
def kKe (e : Int × List Int) : NestedKey := .tup [.num e.1, .tup (e.2.map .num)]
def kSg : Sg → NestedKey
  | .str l a b => .tup [kOpt l, .num a, .num b]
  | .prs l kn => .tup [kOpt l, .tup (kn.map kKe)]
  | .both a b => .tup [kSg a, kSg b]
def kShe (e : Int × Bool) : NestedKey := .tup [.num e.1, kB e.2]
def kWye (e : Int × Int) : NestedKey := .tup [.num e.1, .num e.2]
def kSt (s : RSt) : NestedKey := .tup [.tup (s.1.map kShe), .tup (s.2.1.map kWye), kSg s.2.2]
def kP (p : RSt × RSt) : NestedKey := .tup [kSt p.1, kSt p.2]
/-! ### they differ -/
theorem map_inj_ {α : Type} {f : α → NestedKey} (hf : ∀ a b, f a = f b → a = b) : ∀ {l m : List α}, l.map f = m.map f → l = m
  | [], [], _ => rfl
  | [], _ :: _, e => by simp at e
  | _ :: _, [], e => by simp at e
  | x :: xs, y :: ys, e => by
    rw [List.map_cons, List.map_cons] at e
    injection e with e1 e2
    rw [hf _ _ e1, map_inj_ hf e2]
theorem num_inj (a b : Int) (h : NestedKey.num a = NestedKey.num b) : a = b := by injection h
theorem tup_inj {a b : List NestedKey} (h : NestedKey.tup a = NestedKey.tup b) : a = b := by injection h
theorem kOpt_inj {a b : Option Int} (h : kOpt a = kOpt b) : a = b := by
  cases a with
  | none => cases b with
    | none => rfl
    | some j => exact nomatch (show NestedKey.none = NestedKey.num j from h)
  | some i => cases b with
    | none => exact nomatch (show NestedKey.num i = NestedKey.none from h)
    | some j => rw [num_inj i j h]
theorem kKe_inj (a b : Int × List Int) (h : kKe a = kKe b) : a = b := by
  have h := tup_inj h
  injection h with h1 h2
  injection h2 with h2 _
  exact Prod.ext (num_inj _ _ h1) (map_inj_ num_inj (tup_inj h2))
theorem kB_inj (a b : Bool) (h : kB a = kB b) : a = b := by
  have h := num_inj _ _ h
  cases a <;> cases b <;> first | rfl | exact absurd h (by decide)
theorem kShe_inj (a b : Int × Bool) (h : kShe a = kShe b) : a = b := by
  have h := tup_inj h
  injection h with h1 h2
  injection h2 with h2 _
  exact Prod.ext (num_inj _ _ h1) (kB_inj _ _ h2)
theorem kWye_inj (a b : Int × Int) (h : kWye a = kWye b) : a = b := by
  have h := tup_inj h
  injection h with h1 h2
  injection h2 with h2 _
  exact Prod.ext (num_inj _ _ h1) (num_inj _ _ h2)
theorem kOpt_tup {o : Option Int} {ks : List NestedKey} (h : kOpt o = .tup ks) : False := by
  cases o with
  | none => exact nomatch (show NestedKey.none = NestedKey.tup ks from h)
  | some i => exact nomatch (show NestedKey.num i = NestedKey.tup ks from h)
theorem kSg_tup : ∀ s : Sg, ∃ ks, kSg s = .tup ks
  | .str _ _ _ => ⟨_, rfl⟩
  | .prs _ _ => ⟨_, rfl⟩
  | .both _ _ => ⟨_, rfl⟩
theorem kSg_inj : ∀ {s t : Sg}, kSg s = kSg t → s = t
  | .str l a b, .str l' a' b', h => by
    have h := tup_inj h
    injection h with h1 h2
    injection h2 with h2 h3
    injection h3 with h3 _
    rw [kOpt_inj h1, num_inj _ _ h2, num_inj _ _ h3]
  | .prs l k, .prs l' k', h => by
    have h := tup_inj h
    injection h with h1 h2
    injection h2 with h2 _
    rw [kOpt_inj h1, map_inj_ kKe_inj (tup_inj h2)]
  | .both a b, .both a' b', h => by
    have h := tup_inj h
    injection h with h1 h2
    injection h2 with h2 _
    rw [kSg_inj h1, kSg_inj h2]
  | .str _ _ _, .prs _ _, h => by
    have h := congrArg List.length (tup_inj h)
    exact absurd (show (3 : Nat) = 2 from h) (by decide)
  | .prs _ _, .str _ _ _, h => by
    have h := congrArg List.length (tup_inj h)
    exact absurd (show (2 : Nat) = 3 from h) (by decide)
  | .str _ _ _, .both _ _, h => by
    have h := congrArg List.length (tup_inj h)
    exact absurd (show (3 : Nat) = 2 from h) (by decide)
  | .both _ _, .str _ _ _, h => by
    have h := congrArg List.length (tup_inj h)
    exact absurd (show (2 : Nat) = 3 from h) (by decide)
  | .prs _ _, .both a _, h => by
    have h := tup_inj h
    injection h with h1 _
    obtain ⟨ks, e⟩ := kSg_tup a
    exact (kOpt_tup (h1.trans e)).elim
  | .both a _, .prs _ _, h => by
    have h := tup_inj h
    injection h with h1 _
    obtain ⟨ks, e⟩ := kSg_tup a
    exact (kOpt_tup (h1.symm.trans e)).elim
theorem kSt_inj {s t : RSt} (h : kSt s = kSt t) : s = t := by
  have h := tup_inj h
  injection h with h1 h2
  injection h2 with h2 h3
  injection h3 with h3 _
  exact Prod.ext (map_inj_ kShe_inj (tup_inj h1)) (Prod.ext (map_inj_ kWye_inj (tup_inj h2)) (kSg_inj h3))
theorem kP_inj {s t : RSt × RSt} (h : kP s = kP t) : s = t := by
  have h := tup_inj h
  injection h with h1 h2
  injection h2 with h2 _
  exact Prod.ext (kSt_inj h1) (kSt_inj h2)
/-! ### how deep they are -/
theorem depthAll_le {n : Nat} : ∀ {ks : List NestedKey}, (∀ k ∈ ks, k.depth ≤ n) → NestedKey.depthAll ks ≤ n
  | [], _ => Nat.zero_le _
  | k :: ks, h => by
    rw [NestedKey.depthAll]
    exact Nat.max_le.mpr ⟨h k List.mem_cons_self, depthAll_le fun x m => h x (List.mem_cons_of_mem _ m)⟩
theorem depth_tup {n : Nat} {ks : List NestedKey} (h : ∀ k ∈ ks, k.depth ≤ n) : (NestedKey.tup ks).depth ≤ n + 1 := by
  rw [NestedKey.depth]
  exact Nat.succ_le_succ (depthAll_le h)
theorem depth_num (i : Int) (n : Nat) : (NestedKey.num i).depth ≤ n := by rw [NestedKey.depth]; exact Nat.zero_le _
theorem depth_opt (o : Option Int) (n : Nat) : (kOpt o).depth ≤ n := by
  cases o with
  | none => show NestedKey.depth .none ≤ n; rw [NestedKey.depth]; exact Nat.zero_le _
  | some i => exact depth_num i n
theorem depth_map {α : Type} {f : α → NestedKey} {n : Nat} {l : List α} (h : ∀ a, (f a).depth ≤ n) : (NestedKey.tup (l.map f)).depth ≤ n + 1 := depth_tup fun k m => by
  obtain ⟨a, _, rfl⟩ := List.mem_map.mp m
  exact h a
theorem two_le {n : Nat} {a b : NestedKey} (ha : a.depth ≤ n) (hb : b.depth ≤ n) : (NestedKey.tup [a, b]).depth ≤ n + 1 := depth_tup fun k m => by
  rcases List.mem_cons.mp m with rfl | m
  · exact ha
  · rcases List.mem_cons.mp m with rfl | m
    · exact hb
    · exact nomatch m
theorem three_le {n : Nat} {a b c : NestedKey} (ha : a.depth ≤ n) (hb : b.depth ≤ n) (hc : c.depth ≤ n) : (NestedKey.tup [a, b, c]).depth ≤ n + 1 := depth_tup fun k m => by
  rcases List.mem_cons.mp m with rfl | m
  · exact ha
  · rcases List.mem_cons.mp m with rfl | m
    · exact hb
    · rcases List.mem_cons.mp m with rfl | m
      · exact hc
      · exact nomatch m
theorem kSg_depth : ∀ {k : Nat} {g : G} {s : Sg}, good k g = true → Fit g s → (kSg s).depth ≤ k + 4
  | _, .nil, _, h, _ => by simp [good] at h
  | _, .b1 _, _, h, _ => by simp [good] at h
  | _, .b3 _ _ _, _, h, _ => by simp [good] at h
  | 0, .both _ _, _, h, _ => by simp [good] at h
  | k + 1, .both a b, .both s t, h, f => by
    have h' : (good k a && good k b) = true := h
    rw [Bool.and_eq_true] at h'
    exact Nat.le_trans (two_le (kSg_depth h'.1 f.1) (kSg_depth h'.2 f.2)) (by omega)
  | _, .both _ _, .str _ _ _, _, f => f.elim
  | _, .both _ _, .prs _ _, _, f => f.elim
  | k, .leaf _ _, .str l a b, _, _ => Nat.le_trans (three_le (n := 0) (depth_opt l 0) (depth_num a 0) (depth_num b 0)) (by omega)
  | k, .leaf _ _, .prs l kn, _, _ => Nat.le_trans (two_le (n := 3) (depth_opt l 3) (depth_map (n := 2) fun e => two_le (n := 1) (depth_num _ _) (depth_map (n := 0) fun a => depth_num a 0))) (by omega)
  | _, .leaf _ _, .both _ _, _, f => f.elim
theorem kSt_depth {k : Nat} {g : G} {s : RSt} (h : good k g = true) (f : Fit g s.2.2) : (kSt s).depth ≤ k + 5 :=
  three_le (n := k + 4) (Nat.le_trans (depth_map (n := 1) fun e => two_le (n := 0) (depth_num _ _) (depth_num _ _)) (by omega)) (Nat.le_trans (depth_map (n := 1) fun e => two_le (n := 0) (depth_num _ _) (depth_num _ _)) (by omega)) (kSg_depth h f)
theorem kP_depth {g1 g2 : G} {s : RSt × RSt} (h1 : good 2 g1 = true) (f1 : Fit g1 s.1.2.2) (h2 : good 2 g2 = true) (f2 : Fit g2 s.2.2.2) : (kP s).depth ≤ 8 :=
  two_le (n := 7) (kSt_depth h1 f1) (kSt_depth h2 f2)
/-! ### as they stand in memory -/
section
variable {K : PySem.W.Frag} {H : Hp}
theorem kyAll_of {α : Type} {f : α → NestedKey} : ∀ {as : List Addr} {es : List α}, Paired (fun (p : Addr) (e : α) => KyN K H (f e) (.ref p)) as es → KyAll K H (es.map f) (as.map V.ref)
  | _, _, .nil => .nil
  | _, _, .cons h t => .cons h (kyAll_of t)
theorem ky_ints : ∀ (l : List Int), KyAll K H (l.map .num) (l.map V.int)
  | [] => .nil
  | i :: l => .cons (.int i) (ky_ints l)
theorem ky_opt (o : Option Int) : KyN K H (kOpt o) (optV o) := by
  cases o with
  | none => exact .non
  | some i => exact .int i
theorem ky_b (b : Bool) : KyN K H (kB b) (.bl b) := .bl b
theorem ky2 {a : Addr} {x y : V} {k l : NestedKey} (h : SqT K H a [x, y]) (h1 : KyN K H k x) (h2 : KyN K H l y) : KyN K H (.tup [k, l]) (.ref a) := .tup h (.cons h1 (.cons h2 .nil))
theorem ku_ky : ∀ {ps : List Addr} {ku : List (Int × Addr)} {kn : List (Int × List Int)}, Paired (fun (p : Addr) (e : Int × Addr) => SqT K H p [.int e.1, .ref e.2]) ps ku →
    Paired (fun (e : Int × List Int) (f : Int × Addr) => e.1 = f.1 ∧ SqT K H f.2 (e.2.map V.int)) kn ku → KyAll K H (kn.map kKe) (ps.map V.ref)
  | _, _, _, .nil, .nil => .nil
  | _, _, _, .cons p t, .cons e r => by
    obtain ⟨e1, e2⟩ := e
    rw [← e1] at p
    exact .cons (ky2 p (.int _) (.tup e2 (ky_ints _))) (ku_ky t r)
theorem IsKn.ky {kn : List (Int × List Int)} {q : Addr} (h : IsKn K H kn q) : KyN K H (.tup (kn.map kKe)) (.ref q) := by
  obtain ⟨o, ps, ku, h1, h2, h3, h4⟩ := h
  exact .tup (.inl (.inr ⟨o, h1⟩)) (ku_ky h3 h4)
theorem IsS.ky : ∀ {s : Sg} {v : V}, IsS K H s v → KyN K H (kSg s) v
  | .str l a b, _, ⟨p, e, h⟩ => by subst e; exact .tup h (.cons (ky_opt l) (.cons (.int a) (.cons (.int b) .nil)))
  | .prs l kn, _, ⟨p, q, e, h, k⟩ => by subst e; exact ky2 h (ky_opt l) k.ky
  | .both a b, _, ⟨p, x, y, e, h, ha, hb⟩ => by subst e; exact ky2 h ha.ky hb.ky
theorem IsSh.ky {a : Addr} {sh : Shelf} (h : IsSh K H a sh) : KyN K H (.tup (sh.map kShe)) (.ref a) := by
  obtain ⟨as, h, p⟩ := h
  exact .tup h (kyAll_of (Paired.mapP p fun _ e z => ky2 z (.int e.1) (.bl e.2)))
theorem IsWT.ky {a : Addr} {wy : Way} (h : IsWT K H a wy) : KyN K H (.tup (wy.map kWye)) (.ref a) := by
  obtain ⟨as, h, p⟩ := h
  exact .tup h (kyAll_of (Paired.mapP p fun _ e z => ky2 z (.int e.1) (.int e.2)))
theorem IsSt.ky {a : Addr} {s : RSt} (h : IsSt K H a s) : KyN K H (kSt s) (.ref a) := by
  obtain ⟨a1, a2, v, h, h1, h2, h3⟩ := h
  exact .tup h (.cons h1.ky (.cons h2.ky (.cons h3.ky .nil)))
/-- the tuple of two states -/
def IsPr (K : PySem.W.Frag) (H : Hp) (b : Addr) (p : RSt × RSt) : Prop := ∃ a1 a2, SqT K H b [.ref a1, .ref a2] ∧ IsSt K H a1 p.1 ∧ IsSt K H a2 p.2
theorem IsPr.ky {b : Addr} {p : RSt × RSt} (h : IsPr K H b p) : KyN K H (kP p) (.ref b) := by
  obtain ⟨a1, a2, h, h1, h2⟩ := h
  exact ky2 h h1.ky h2.ky
theorem IsPr.imm {H' : Hp} {b : Addr} {p : RSt × RSt} (h : IsPr K H b p) (e : Imm H H') : IsPr K H' b p := by
  obtain ⟨a1, a2, h, h1, h2⟩ := h
  exact ⟨a1, a2, e.t h, h1.imm e, h2.imm e⟩
end
end St

namespace St
open PySem PySem.Spec PyProof.Rows L2
/-! ### list.count of a text -/
def eqks (k : Str) (v : Value) : Bool := match v with
  | .str n _ => n.cps.toList == k.cps.toList
  | _ => false
theorem eqks_eq (n k : Str) : (n.cps.toList == k.cps.toList) = (n == k) := by
  by_cases c : n = k
  · subst c; simp
  · rw [beq_eq_false_iff_ne.mpr c, beq_eq_false_iff_ne]
    intro z
    apply c
    cases n; cases k
    simp only at z
    congr 1
    exact Array.toList_inj.mp z
theorem eqks_gives {k : Str} {t : Tok} : ∀ {us : List Value} {ns : List Str}, Vals (ns.map V.str) us → ∀ y ∈ us, MeetsSeq.EqGives y (.str k t) (eqks k y)
  | [], [], .nil => fun y hy => by cases hy
  | _ :: _, n :: _, .cons ⟨t', e⟩ h => fun y hy => by
    rcases List.mem_cons.mp hy with e2 | e2
    · rw [e2, e]
      exact SeqRoads2.EqGives.str n k t' t
    · exact eqks_gives h y e2
theorem eqks_count {k : Str} : ∀ {us : List Value} {ns : List Str}, Vals (ns.map V.str) us → us.countP (eqks k) = ns.count k
  | [], [], .nil => rfl
  | _ :: _, n :: _, .cons ⟨t', e⟩ h => by
    have ih := eqks_count (k := k) h
    rw [List.countP_cons, List.count_cons, ih, e]
    show _ + (if (n.cps.toList == k.cps.toList) = true then 1 else 0) = _
    rw [eqks_eq]
def rCntS (K : PySem.W.Frag) : V → List V → Hp → VK → Prop := fun x xs H Q => ∃ (p : Addr) (ns : List Str) (k : Str), x = .ref p ∧ xs = [.str k] ∧ SqL K H p (ns.map V.str) ∧ Q (.int (ns.count k : Nat)) H
theorem mt_lcountS {X : Cx} {K : PySem.W.Frag} (h : X.K = K := by rfl) : MtR X "list.count" (rCntS K) := by
  subst h
  intro pins s σ H x xs v us Q I rx rxs h
  obtain ⟨p, ns, k, rfl, rfl, hs, q⟩ := h
  cases rx
  obtain ⟨u, rfl, ru⟩ := rxs.one
  obtain ⟨t, rfl⟩ := ru
  obtain ⟨its, rv, ⟨⟨cls, dd, data, sl⟩, n, ho, hc, hdn, hd⟩, hlen⟩ := I.list hs
  simp only at hc hd
  subst hc hd
  refine call_meets PySem.F.slot_list_count ⟨_, ho, rfl⟩ PySem.F.entry_list_count (PySem.F.args_list_count_2 _ _)
    (SeqAt.list_countAt p its.toArray n dd sl (.str k t) (eqks k)) ⟨ho, fun y hy => (eqks_gives rv y (by simpa using hy)).at _ _, ?_⟩
  have ec : its.toArray.toList.countP (eqks k) = ns.count k := eqks_count rv
  refine ⟨.int (ns.count k : Nat), H, I.tok _, ⟨s.toks, ?_⟩, q⟩
  show Value.int ((its.toArray.toList.countP (eqks k) : Nat) : Int) s.toks = Value.int ((ns.count k : Nat) : Int) s.toks
  rw [ec]
end St

namespace St
open PySem PySem.Spec PyProof.Rows L2
abbrev s_turn_cost : Stmt := topS 37
abbrev N_turn_cost : List Str := ["events", "weights", "words", "word", "place"]
abbrev p_turn_cost : List Str := ["events", "weights"]
theorem sc_turn_cost : FnScope N_turn_cost p_turn_cost (defScope s_turn_cost) := ⟨rfl, rfl, rfl, by decide +kernel, rfl, by decide +kernel, by decide +kernel⟩
abbrev s_need_rows : Stmt := topS 39
abbrev N_need_rows : List Str := ["most", "places", "length", "rows", "turn"]
abbrev p_need_rows : List Str := ["most", "places", "length"]
theorem sc_need_rows : FnScope N_need_rows p_need_rows (defScope s_need_rows) := ⟨rfl, rfl, rfl, by decide +kernel, rfl, by decide +kernel, by decide +kernel⟩
theorem hn_of {A : Around} (h : A.units + 64 < cLine) : A.units + 9 < cLine := by omega
def cntW (x : Str) (es : Evs) : Nat := (es.map fun e => e.1).count x
/-- what a turn costs -/
def turnC (es : Evs) (w : Wts) : Int := ((cntW "late" es : Nat) : Int) * w.a + ((cntW "miss" es : Nat) : Int) * w.b + ((cntW "waste" es : Nat) : Int) * w.c
theorem cntW_le (x : Str) (es : Evs) : cntW x es ≤ es.length := by
  unfold cntW
  exact Nat.le_trans List.count_le_length (by rw [List.length_map]; exact Nat.le_refl _)
section
variable {P : Program} {w : World} {K : PySem.W.Frag} {mg : Str → Option Value} {base : Heap} {f : Addr} {fd : FuncData}
def spTC (K : PySem.W.Frag) : Sp := fun vs H Q _ => ∃ (ev wp : Addr) (es : Evs) (w : Wts), vs = [.ref ev, .ref wp] ∧ IsEv K H ev es ∧ IsW K H wp w ∧ w.Good ∧ es.length ≤ 1000 ∧ ∀ H', Same H H' → Q (.int (turnC es w)) H'
theorem ok_turn_cost (F : Fun K "turn_cost" "turn_cost" s_turn_cost f fd) : FnOk P w K mg base CX0 1 f fd p_turn_cost (spTC K) := by
  refine F.ok sc_turn_cost (fun vs H Q E h => ?_) (fun cdv A outer s H vs Q E hr h => ?_)
  · obtain ⟨ev, wp, es, w, rfl, _⟩ := h
    rfl
  obtain ⟨ev, wp, es, wt, rfl, ⟨as, h1, h2⟩, hw, ⟨⟨a0, a9⟩, ⟨b0, b9⟩, c0, c9⟩, hl, q⟩ := h
  have hw : SqT K H wp [.int wt.a, .int wt.b, .int wt.c] := hw
  have las : as.length = es.length := Paired.length h2
  refine ⟨_, (pss_cons (ps_setLc (i := 2) (own := [("word", 3), ("place", 4)]) (g := (gTup K 2 (gCons (gName 3) (gCons (gName 4) gNil)))) rfl sc_turn_cost.nd rfl rfl (sw_true rfl rfl rfl (by decide +kernel)) (pi_list (pv 0)) (blkOk_by (own := [("word", 3), ("place", 4)]) (N := N_turn_cost) (sc := defScope s_turn_cost) (by decide +kernel)) (fun _ _ _ _ _ => pg_tup rfl (pgs_cons (pg_name (i := 3) sc_turn_cost.nd rfl (Or.inl rfl)) (pgs_cons (pg_name (i := 4) sc_turn_cost.nd rfl (Or.inl rfl)) pgs_nil))) (fun _ _ _ _ _ => pts_nil) (fun _ _ _ _ _ => (pv 3)))
  (pss_one (ps_ret (pe_op op_add (pe_op op_add (pe_op op_mul (pe_bm PySem.F.plainAttrs_list PySem.F.slot_list_count PySem.F.type_list_count mt_lcountS (pv 2) (pa_cons pe_str pa_nil)) (pe_ix ix_tup (pv 1) pe_int (fun _ _ => rfl))) (pe_op op_mul (pe_bm PySem.F.plainAttrs_list PySem.F.slot_list_count PySem.F.type_list_count mt_lcountS (pv 2) (pa_cons pe_str pa_nil)) (pe_ix ix_tup (pv 1) pe_int (fun _ _ => rfl)))) (pe_op op_mul (pe_bm PySem.F.plainAttrs_list PySem.F.slot_list_count PySem.F.type_list_count mt_lcountS (pv 2) (pa_cons pe_str pa_nil)) (pe_ix ix_tup (pv 1) pe_int (fun _ _ => rfl))))))), ?_⟩
  refine ⟨_, rfl, ev, rfl, ⟨_, sql h1⟩, fun D nD => ?_⟩
  refine lc_list (xs := as.map V.ref) (fun j H2 => Same H H2 ∧ H2 D = some (.lst (((es.map fun e => e.1).take j).map V.str))) ⟨same_upd nD, upd_same⟩ (fun j H2 _ h => sql (h.1 _ _ h1)) (fun j y H2 hj h => ?_) (fun H2 h => ?_)
  · obtain ⟨s3, eD⟩ := h
    obtain ⟨u2, oo, rfl, hu2, tk2, eg2⟩ := pr_at (h2.imm (Imm.same s3)) hj
    obtain ⟨o1, o2⟩ := oo
    have hu2 : SqT K H2 u2 [.str o1, .int o2] := hu2
    refine ⟨u2, _, rfl, hu2, rfl, _, _, rfl, _, _, rfl, rfl, ?_⟩
    refine ⟨rfl, ?_⟩
    and_intros
    refine ⟨_, eD, by rw [List.length_map, List.length_take, List.length_map]; exact szl (by omega), same_mut s3 nD, ?_⟩
    rw [upd_same, List.take_add_one, List.getElem?_map, eg2, List.map_append]
    rfl
  · obtain ⟨s3, eD⟩ := h
    rw [show (es.map fun e => e.1).take (as.map V.ref).length = es.map fun e => e.1 from List.take_of_length_le (by rw [List.length_map, List.length_map, las]; exact Nat.le_refl _)] at eD
    have eD : SqL K H2 D ((es.map fun e => e.1).map V.str) := sql eD
    have hw2 := same_t s3 hw
    have c1 := cntW_le "late" es
    have c2 := cntW_le "miss" es
    have c3 := cntW_le "waste" es
    have e0 : ∀ x : Str, (es.map fun e => e.1).count x = cntW x es := fun _ => rfl
    refine ⟨_, rfl, .inl ⟨rfl, _, eD⟩, ?_⟩
    and_intros
    refine ⟨D, _, "late", rfl, rfl, eD, ?_⟩
    refine ⟨_, rfl, _, _, _, _, rfl, rfl, hw2, atI_nat (j := 0) rfl, _, _, rfl, rfl, .inr (by omega), ?_⟩
    refine ⟨_, rfl, .inl ⟨rfl, _, eD⟩, ?_⟩
    and_intros
    refine ⟨D, _, "miss", rfl, rfl, eD, ?_⟩
    refine ⟨_, rfl, _, _, _, _, rfl, rfl, hw2, atI_nat (j := 1) rfl, _, _, rfl, rfl, .inr (by omega), _, _, rfl, rfl, ?_⟩
    refine ⟨_, rfl, .inl ⟨rfl, _, eD⟩, ?_⟩
    and_intros
    refine ⟨D, _, "waste", rfl, rfl, eD, ?_⟩
    refine ⟨_, rfl, _, _, _, _, rfl, rfl, hw2, atI_nat (j := 2) rfl, _, _, rfl, rfl, .inr (by omega), _, _, rfl, rfl, ?_⟩
    exact q H2 s3
end
end St

namespace St
open PySem PySem.Spec PyProof.Rows L2
/-! ### the order of a number and a row -/
abbrev ltI : List Int → List Int → Bool := PySem.W.listLt
abbrev ltP : Int × List Int → Int × List Int → Bool := PySem.W.DatumOrd.lt
theorem ltI_cons (x y : Int) (a b : List Int) : ltI (x :: a) (y :: b) = if x = y then ltI a b else decide (x < y) := rfl
theorem ltP_eq (p q : Int × List Int) : ltP p q = if p.1 = q.1 then ltI p.2 q.2 else decide (p.1 < q.1) := rfl
theorem ltI_irr : ∀ a : List Int, ltI a a = false
  | [] => rfl
  | x :: a => by rw [ltI_cons, if_pos rfl]; exact ltI_irr a
theorem ltI_tri : ∀ {a b : List Int}, ltI a b = false → ltI b a = false → a = b
  | [], [], _, _ => rfl
  | [], _ :: _, h, _ => nomatch h
  | _ :: _, [], _, h => nomatch h
  | x :: a, y :: b, h, k => by
    rw [ltI_cons] at h k
    by_cases e : x = y
    · rw [if_pos e] at h
      rw [if_pos e.symm] at k
      rw [e, ltI_tri h k]
    · rw [if_neg e] at h
      rw [if_neg (fun z => e z.symm)] at k
      have h := of_decide_eq_false h
      have k := of_decide_eq_false k
      exact absurd (by omega) e
theorem ltI_tr : ∀ {a b c : List Int}, ltI a b = true → ltI b c = true → ltI a c = true
  | [], [], _, h, _ => nomatch h
  | [], _ :: _, [], _, k => nomatch k
  | [], _ :: _, _ :: _, _, _ => rfl
  | _ :: _, [], _, h, _ => nomatch h
  | _ :: _, _ :: _, [], _, k => nomatch k
  | x :: a, y :: b, z :: c, h, k => by
    rw [ltI_cons] at h k ⊢
    by_cases e : x = y
    · rw [if_pos e] at h
      by_cases f : y = z
      · rw [if_pos f] at k
        rw [if_pos (e.trans f)]
        exact ltI_tr h k
      · rw [if_neg f] at k
        rw [if_neg (fun w => f (e.symm.trans w)), e]
        exact k
    · rw [if_neg e] at h
      have h := of_decide_eq_true h
      by_cases f : y = z
      · rw [if_neg (fun w => e (w.trans f.symm)), ← f]
        exact decide_eq_true h
      · rw [if_neg f] at k
        have k := of_decide_eq_true k
        rw [if_neg (by omega)]
        exact decide_eq_true (by omega)
theorem ltI_app : ∀ {a b : List Int} (p : Int), a.length = b.length → ltI (a ++ [p]) (b ++ [p]) = ltI a b
  | [], [], p, _ => ltI_irr [p]
  | [], _ :: _, _, h => nomatch h
  | _ :: _, [], _, h => nomatch h
  | x :: a, y :: b, p, h => by
    rw [List.cons_append, List.cons_append, ltI_cons, ltI_cons, ltI_app p (Nat.succ.inj h)]
theorem ltI_app2 : ∀ {a b c d : List Int}, a.length = b.length → ltI a b = true → ltI (a ++ c) (b ++ d) = true
  | [], [], _, _, _, h => nomatch h
  | [], _ :: _, _, _, h, _ => nomatch h
  | _ :: _, [], _, _, h, _ => nomatch h
  | x :: a, y :: b, c, d, h, k => by
    rw [ltI_cons] at k
    rw [List.cons_append, List.cons_append, ltI_cons]
    by_cases e : x = y
    · rw [if_pos e] at k ⊢
      exact ltI_app2 (Nat.succ.inj h) k
    · rw [if_neg e] at k ⊢
      exact k
theorem ltI_app3 : ∀ (a : List Int) (c d : List Int), ltI (a ++ c) (a ++ d) = ltI c d
  | [], _, _ => rfl
  | x :: a, c, d => by
    rw [List.cons_append, List.cons_append, ltI_cons, if_pos rfl]
    exact ltI_app3 a c d
theorem ltP_irr (a : Int × List Int) : ltP a a = false := by rw [ltP_eq, if_pos rfl]; exact ltI_irr _
theorem ltP_tri {a b : Int × List Int} (h : ltP a b = false) (k : ltP b a = false) : a = b := by
  rw [ltP_eq] at h k
  by_cases e : a.1 = b.1
  · rw [if_pos e] at h
    rw [if_pos e.symm] at k
    exact Prod.ext e (ltI_tri h k)
  · rw [if_neg e] at h
    rw [if_neg (fun z => e z.symm)] at k
    have h := of_decide_eq_false h
    have k := of_decide_eq_false k
    exact absurd (by omega) e
theorem ltP_tr {a b c : Int × List Int} (h : ltP a b = true) (k : ltP b c = true) : ltP a c = true := by
  rw [ltP_eq] at h k ⊢
  by_cases e : a.1 = b.1
  · rw [if_pos e] at h
    by_cases f : b.1 = c.1
    · rw [if_pos f] at k
      rw [if_pos (e.trans f)]
      exact ltI_tr h k
    · rw [if_neg f] at k
      rw [if_neg (fun w => f (e.symm.trans w)), e]
      exact k
  · rw [if_neg e] at h
    have h := of_decide_eq_true h
    by_cases f : b.1 = c.1
    · rw [if_neg (fun w => e (w.trans f.symm)), ← f]
      exact decide_eq_true h
    · rw [if_neg f] at k
      have k := of_decide_eq_true k
      rw [if_neg (by omega)]
      exact decide_eq_true (by omega)
/-- a is no greater than b -/
def leP (a b : Int × List Int) : Prop := ltP b a = false
theorem leP_refl (a : Int × List Int) : leP a a := ltP_irr a
theorem leP_lt {a b : Int × List Int} (h : ltP a b = true) : leP a b := by
  unfold leP
  cases k : ltP b a with
  | false => rfl
  | true => have := ltP_tr h k; rw [ltP_irr] at this; exact this.symm
theorem leP_tr {a b c : Int × List Int} (h : leP a b) (k : leP b c) : leP a c := by
  unfold leP at *
  cases q : ltP c a with
  | false => rfl
  | true =>
    cases r : ltP a b with
    | true => rw [ltP_tr q r] at k; exact k
    | false =>
      have e := ltP_tri r h
      subst e
      rw [q] at k
      exact k
theorem leP_anti {a b : Int × List Int} (h : leP a b) (k : leP b a) : a = b := ltP_tri k h
/-! ### levels: for each state the most, and the first row that leads there by it -/
abbrev Cand := (RSt × RSt) × Int × List Int
abbrev Lv := List Cand
def lvAt (l : Lv) (k : RSt × RSt) : Option (Int × List Int) := (l.find? fun e => decide (kP e.1 = kP k)).map (·.2)
def lvPut (l : Lv) (k : RSt × RSt) (v : Int × List Int) : Lv := if (lvAt l k).isSome then l.map (fun e => if kP e.1 = kP k then (e.1, v) else e) else l ++ [(k, v)]
/-- as it is held against another -/
def ngV (v : Int × List Int) : Int × List Int := (0 - v.1, v.2)
def leV (a b : Int × List Int) : Prop := leP (ngV a) (ngV b)
def relax (l : Lv) (c : Cand) : Lv := match lvAt l c.1 with
  | none => lvPut l c.1 c.2
  | some o => if ltP (ngV c.2) (ngV o) = true then lvPut l c.1 c.2 else l
structure Cov (l : Lv) (C : List Cand) : Prop where
  nd : (l.map (·.1)).Nodup
  sub : ∀ e ∈ l, e ∈ C
  has : ∀ c ∈ C, ∃ e ∈ l, e.1 = c.1 ∧ leV e.2 c.2
theorem lvAt_some {l : Lv} {k : RSt × RSt} {o : Int × List Int} (h : lvAt l k = some o) : (k, o) ∈ l := by
  obtain ⟨e, he, rfl⟩ := Option.map_eq_some_iff.mp h
  have h1 := List.mem_of_find?_eq_some he
  have h2 : kP e.1 = kP k := of_decide_eq_true (List.find?_some (p := fun e : Cand => decide (kP e.1 = kP k)) he)
  have h3 := kP_inj h2
  rw [← h3]
  exact h1
theorem lvAt_none {l : Lv} {k : RSt × RSt} (h : lvAt l k = none) : ∀ e ∈ l, e.1 ≠ k := fun e he z => by
  have h1 := List.find?_eq_none.mp (Option.map_eq_none_iff.mp h) e he
  exact h1 (decide_eq_true (by rw [z]))
theorem nodup_key {l : Lv} (nd : (l.map (·.1)).Nodup) : ∀ {e f : Cand}, e ∈ l → f ∈ l → e.1 = f.1 → e = f := by
  induction l with
  | nil => intro e f he; exact nomatch he
  | cons x r ih =>
    rw [List.map_cons, List.nodup_cons] at nd
    intro e f he hf h
    rcases List.mem_cons.mp he with e1 | he1
    · rcases List.mem_cons.mp hf with e2 | hf1
      · rw [e1, e2]
      · exact absurd (List.mem_map.mpr ⟨f, hf1, by rw [← h, e1]⟩) nd.1
    · rcases List.mem_cons.mp hf with e2 | hf1
      · exact absurd (List.mem_map.mpr ⟨e, he1, by rw [h, e2]⟩) nd.1
      · exact ih nd.2 he1 hf1 h
theorem relax_put {l : Lv} {C : List Cand} {c : Cand} (h : Cov l C) (hn : ∀ e ∈ l, e.1 = c.1 → leV c.2 e.2) : Cov (lvPut l c.1 c.2) (C ++ [c]) := by
  unfold lvPut
  cases q : lvAt l c.1 with
  | none =>
    have hk := lvAt_none q
    refine ⟨?_, ?_, ?_⟩
    · show ((l ++ [(c.1, c.2)]).map (·.1)).Nodup
      rw [List.map_append, List.nodup_append]
      refine ⟨h.nd, by simp, fun a ha b hb z => ?_⟩
      obtain ⟨e, he, rfl⟩ := List.mem_map.mp ha
      have hb : b = c.1 := by simpa using hb
      exact hk e he (z.trans hb)
    · intro e he
      rcases List.mem_append.mp (show e ∈ l ++ [(c.1, c.2)] from he) with he | he
      · exact List.mem_append_left _ (h.sub e he)
      · exact List.mem_append_right _ he
    · intro d hd
      rcases List.mem_append.mp hd with hd | hd
      · obtain ⟨e, he, h1, h2⟩ := h.has d hd
        exact ⟨e, List.mem_append_left _ he, h1, h2⟩
      · have hd : d = c := by simpa using hd
        subst hd
        exact ⟨d, List.mem_append_right _ (by simp), rfl, leP_refl _⟩
  | some o =>
    have hm := lvAt_some q
    have hmap : ∀ e ∈ l, kP e.1 = kP c.1 → e = (c.1, o) := fun e he z => nodup_key h.nd he hm (kP_inj z)
    refine ⟨?_, ?_, ?_⟩
    · show ((l.map (fun e => if kP e.1 = kP c.1 then (e.1, c.2) else e)).map (·.1)).Nodup
      rw [List.map_map]
      have : ((·.1) ∘ fun (e : Cand) => if kP e.1 = kP c.1 then (e.1, c.2) else e) = fun e : Cand => e.1 := by
        funext e
        show (if kP e.1 = kP c.1 then (e.1, c.2) else e).1 = e.1
        split <;> rfl
      rw [this]
      exact h.nd
    · intro e he
      obtain ⟨f, hf, rfl⟩ := List.mem_map.mp (show e ∈ l.map (fun e => if kP e.1 = kP c.1 then (e.1, c.2) else e) from he)
      by_cases z : kP f.1 = kP c.1
      · rw [if_pos z, kP_inj z]
        exact List.mem_append_right _ (by simp)
      · rw [if_neg z]
        exact List.mem_append_left _ (h.sub f hf)
    · intro d hd
      have hc : (c.1, c.2) ∈ l.map (fun e => if kP e.1 = kP c.1 then (e.1, c.2) else e) := List.mem_map.mpr ⟨(c.1, o), hm, by rw [if_pos rfl]⟩
      rcases List.mem_append.mp hd with hd | hd
      · obtain ⟨e, he, h1, h2⟩ := h.has d hd
        by_cases z : kP e.1 = kP c.1
        · exact ⟨(c.1, c.2), hc, (kP_inj z).symm.trans h1, leP_tr (hn e he (kP_inj z)) h2⟩
        · exact ⟨e, List.mem_map.mpr ⟨e, he, by rw [if_neg z]⟩, h1, h2⟩
      · have hd : d = c := by simpa using hd
        subst hd
        exact ⟨_, hc, rfl, leP_refl _⟩
theorem relax_cov {l : Lv} {C : List Cand} {c : Cand} (h : Cov l C) : Cov (relax l c) (C ++ [c]) := by
  unfold relax
  cases q : lvAt l c.1 with
  | none => exact relax_put h fun e he z => absurd z (lvAt_none q e he)
  | some o =>
    have hm := lvAt_some q
    cases r : ltP (ngV c.2) (ngV o) with
    | true =>
      show Cov (if ltP (ngV c.2) (ngV o) = true then lvPut l c.1 c.2 else l) _
      rw [if_pos r]
      refine relax_put h fun e he z => ?_
      have e1 := nodup_key h.nd he hm z
      rw [e1]
      exact leP_lt r
    | false =>
      show Cov (if ltP (ngV c.2) (ngV o) = true then lvPut l c.1 c.2 else l) _
      rw [if_neg (by rw [r]; decide)]
      refine ⟨h.nd, fun e he => List.mem_append_left _ (h.sub e he), fun d hd => ?_⟩
      rcases List.mem_append.mp hd with hd | hd
      · exact h.has d hd
      · have hd : d = c := by simpa using hd
        subst hd
        exact ⟨_, hm, rfl, r⟩
theorem relaxs_cov : ∀ (cs : List Cand) {l : Lv} {C : List Cand}, Cov l C → Cov (cs.foldl relax l) (C ++ cs)
  | [], _, _, h => by rw [List.append_nil]; exact h
  | c :: cs, l, C, h => by
    have := relaxs_cov cs (relax_cov (c := c) h)
    rw [List.append_assoc] at this
    exact this
theorem lvPut_len (l : Lv) (k : RSt × RSt) (v : Int × List Int) : (lvPut l k v).length ≤ l.length + 1 := by
  unfold lvPut
  split
  · rw [List.length_map]; omega
  · rw [List.length_append]; exact Nat.le_refl _
theorem relax_len (l : Lv) (c : Cand) : (relax l c).length ≤ l.length + 1 := by
  unfold relax
  cases lvAt l c.1 with
  | none => exact lvPut_len _ _ _
  | some o =>
    show (if ltP (ngV c.2) (ngV o) = true then lvPut l c.1 c.2 else l).length ≤ _
    split
    · exact lvPut_len _ _ _
    · omega
theorem relaxs_len : ∀ (cs : List Cand) (l : Lv), (cs.foldl relax l).length ≤ l.length + cs.length
  | [], _ => Nat.le_refl _
  | c :: cs, l => by
    have h1 := relaxs_len cs (relax l c)
    have h2 := relax_len l c
    rw [List.foldl_cons, List.length_cons]
    omega
end St

namespace St
open PySem PySem.Spec PyProof.Rows L2
/-! ### a row of places, turn by turn -/
def st0 (g : G) : RSt := ([], [], first0 g)
/-- the state, and what it cost -/
def runC (c : Cfg) (w : Wts) (ps : List Int) : RSt × Int := ps.foldl (fun a p => ((goC c a.1 p).1, a.2 + turnC (goC c a.1 p).2 w)) (st0 c.g, 0)
theorem runC_snoc (c : Cfg) (w : Wts) (ps : List Int) (p : Int) : runC c w (ps ++ [p]) = ((goC c (runC c w ps).1 p).1, (runC c w ps).2 + turnC (goC c (runC c w ps).1 p).2 w) := by
  unfold runC
  rw [List.foldl_append]
  rfl
/-- both, and by how much more the one costs -/
def fullOf (c1 c2 : Cfg) (w : Wts) (ps : List Int) : Cand := (((runC c1 w ps).1, (runC c2 w ps).1), (runC c1 w ps).2 - (runC c2 w ps).2, ps)
def candOf (c1 c2 : Cfg) (w : Wts) (e : Cand) (p : Int) : Cand :=
  (((goC c1 e.1.1 p).1, (goC c2 e.1.2 p).1), e.2.1 + (turnC (goC c1 e.1.1 p).2 w - turnC (goC c2 e.1.2 p).2 w), e.2.2 ++ [p])
theorem full_cand (c1 c2 : Cfg) (w : Wts) (ps : List Int) (p : Int) : fullOf c1 c2 w (ps ++ [p]) = candOf c1 c2 w (fullOf c1 c2 w ps) p := by
  unfold fullOf candOf
  rw [runC_snoc, runC_snoc]
  refine Prod.ext rfl (Prod.ext ?_ rfl)
  show (runC c1 w ps).2 + turnC (goC c1 (runC c1 w ps).1 p).2 w - ((runC c2 w ps).2 + turnC (goC c2 (runC c2 w ps).1 p).2 w) = ((runC c1 w ps).2 - (runC c2 w ps).2) + (turnC (goC c1 (runC c1 w ps).1 p).2 w - turnC (goC c2 (runC c2 w ps).1 p).2 w)
  omega
/-- the places, from the first one -/
def plR (n : Nat) : List Int := (List.range n).map fun (k : Nat) => (k : Int)
/-- all rows of so many places -/
def rowsP (n : Nat) : Nat → List (List Int)
  | 0 => [[]]
  | k + 1 => (rowsP n k).flatMap fun r => (plR n).map fun p => r ++ [p]
theorem mem_plR {n : Nat} {p : Int} : p ∈ plR n ↔ 0 ≤ p ∧ p < (n : Int) := by
  unfold plR
  rw [List.mem_map]
  constructor
  · rintro ⟨k, hk, rfl⟩
    have := List.mem_range.mp hk
    omega
  · rintro ⟨h1, h2⟩
    exact ⟨p.toNat, List.mem_range.mpr (by omega), by omega⟩
theorem rows_len {n : Nat} : ∀ {k : Nat} {r : List Int}, r ∈ rowsP n k → r.length = k
  | 0, r, h => by
    have h : r ∈ ([[]] : List (List Int)) := h
    have : r = [] := by simpa using h
    rw [this]; rfl
  | k + 1, r, h => by
    obtain ⟨q, hq, h⟩ := List.mem_flatMap.mp h
    obtain ⟨p, _, rfl⟩ := List.mem_map.mp h
    rw [List.length_append, rows_len hq]
    rfl
theorem rows_in {n : Nat} : ∀ {k : Nat} {r : List Int}, r ∈ rowsP n k → ∀ p ∈ r, 0 ≤ p ∧ p < (n : Int)
  | 0, r, h => by
    have h : r ∈ ([[]] : List (List Int)) := h
    have : r = [] := by simpa using h
    rw [this]
    intro p hp
    exact nomatch hp
  | k + 1, r, h => by
    obtain ⟨q, hq, h⟩ := List.mem_flatMap.mp h
    obtain ⟨p, hp, rfl⟩ := List.mem_map.mp h
    intro x hx
    rcases List.mem_append.mp hx with hx | hx
    · exact rows_in hq x hx
    · have : x = p := by simpa using hx
      rw [this]
      exact mem_plR.mp hp
theorem rows_count (n : Nat) : ∀ k, (rowsP n k).length = n ^ k
  | 0 => rfl
  | k + 1 => by
    show ((rowsP n k).flatMap fun r => (plR n).map fun p => r ++ [p]).length = n ^ (k + 1)
    have : ∀ l : List (List Int), (l.flatMap fun r => (plR n).map fun p => r ++ [p]).length = l.length * n := by
      intro l
      induction l with
      | nil => simp
      | cons a l ih =>
        rw [List.flatMap_cons, List.length_append, ih, List.length_map, List.length_cons, Nat.succ_mul]
        unfold plR
        rw [List.length_map, List.length_range]
        omega
    rw [this, rows_count n k, Nat.pow_succ]
theorem rows_sorted (n : Nat) : ∀ k, (rowsP n k).Pairwise (fun a b => ltI a b = true)
  | 0 => List.pairwise_singleton _ _
  | k + 1 => by
    show ((rowsP n k).flatMap fun r => (plR n).map fun p => r ++ [p]).Pairwise _
    rw [List.pairwise_flatMap]
    refine ⟨fun r _ => ?_, ?_⟩
    · rw [List.pairwise_map]
      unfold plR
      rw [List.pairwise_map]
      refine List.Pairwise.imp (fun {a b} h => ?_) (List.pairwise_lt_range (n := n))
      rw [ltI_app3]
      rw [ltI_cons, if_neg (by omega)]
      exact decide_eq_true (by omega)
    · refine List.Pairwise.imp_of_mem (fun {a b} ha hb h => ?_) (rows_sorted n k)
      intro x hx y hy
      obtain ⟨p, _, rfl⟩ := List.mem_map.mp hx
      obtain ⟨q, _, rfl⟩ := List.mem_map.mp hy
      exact ltI_app2 ((rows_len ha).trans (rows_len hb).symm) h
theorem plR_take {n m : Nat} (h : m < n) : (plR n).take (m + 1) = (plR n).take m ++ [0 + ((m : Nat) : Int)] := by
  have : (plR n)[m]? = some ((m : Nat) : Int) := by unfold plR; rw [List.getElem?_map, List.getElem?_range h]; rfl
  rw [List.take_add_one, this, Int.zero_add]
  rfl
/-! ### a level told by all rows -/
def candsOf (c1 c2 : Cfg) (w : Wts) (n : Nat) (l : Lv) : List Cand := l.flatMap fun e => (plR n).map (candOf c1 c2 w e)
def stepLv (c1 c2 : Cfg) (w : Wts) (n : Nat) (l : Lv) : Lv := (candsOf c1 c2 w n l).foldl relax []
def lvl (c1 c2 : Cfg) (w : Wts) (n : Nat) : Nat → Lv
  | 0 => [((st0 c1.g, st0 c2.g), 0, [])]
  | k + 1 => stepLv c1 c2 w n (lvl c1 c2 w n k)
structure Best (c1 c2 : Cfg) (w : Wts) (l : Lv) (R : List (List Int)) : Prop where
  sub : ∀ e ∈ l, ∃ ps ∈ R, e = fullOf c1 c2 w ps
  has : ∀ ps ∈ R, ∃ e ∈ l, e.1 = (fullOf c1 c2 w ps).1 ∧ leV e.2 (fullOf c1 c2 w ps).2
theorem leV_step {a b : Int × List Int} (d p : Int) (hl : a.2.length = b.2.length) (h : leV a b) : leV (a.1 + d, a.2 ++ [p]) (b.1 + d, b.2 ++ [p]) := by
  unfold leV leP ngV at h ⊢
  rw [ltP_eq] at h ⊢
  dsimp only at h ⊢
  by_cases e : (0 - b.1 : Int) = 0 - a.1
  · rw [if_pos e] at h
    rw [if_pos (by omega), ltI_app p hl.symm]
    exact h
  · rw [if_neg e] at h
    rw [if_neg (by omega)]
    have h := of_decide_eq_false h
    exact decide_eq_false (by omega)
theorem best_step {c1 c2 : Cfg} {w : Wts} {n k : Nat} {l : Lv} (h : Best c1 c2 w l (rowsP n k)) : Best c1 c2 w (stepLv c1 c2 w n l) (rowsP n (k + 1)) := by
  have cov : Cov (stepLv c1 c2 w n l) (candsOf c1 c2 w n l) := by
    have := relaxs_cov (candsOf c1 c2 w n l) (l := []) (C := []) ⟨List.nodup_nil, fun _ m => (nomatch m), fun _ m => (nomatch m)⟩
    rw [List.nil_append] at this
    exact this
  refine ⟨fun e he => ?_, fun ps hps => ?_⟩
  · obtain ⟨f, hf, he⟩ := List.mem_flatMap.mp (cov.sub e he)
    obtain ⟨p, hp, rfl⟩ := List.mem_map.mp he
    obtain ⟨ps, hps, rfl⟩ := h.sub f hf
    exact ⟨ps ++ [p], List.mem_flatMap.mpr ⟨ps, hps, List.mem_map.mpr ⟨p, hp, rfl⟩⟩, (full_cand _ _ _ _ _).symm⟩
  · obtain ⟨qs, hqs, hx⟩ := List.mem_flatMap.mp hps
    obtain ⟨p, hp, rfl⟩ := List.mem_map.mp hx
    obtain ⟨e, he, e1, e2⟩ := h.has qs hqs
    obtain ⟨ps', hps', ee⟩ := h.sub e he
    obtain ⟨f, hf, f1, f2⟩ := cov.has (candOf c1 c2 w e p) (List.mem_flatMap.mpr ⟨e, he, List.mem_map.mpr ⟨p, hp, rfl⟩⟩)
    rw [full_cand]
    refine ⟨f, hf, ?_, ?_⟩
    · rw [f1]
      show ((goC c1 e.1.1 p).1, (goC c2 e.1.2 p).1) = _
      rw [e1]
      rfl
    · refine leP_tr f2 ?_
      have l1 : e.2.2.length = (fullOf c1 c2 w qs).2.2.length := by
        rw [ee]
        show ps'.length = qs.length
        rw [rows_len hps', rows_len hqs]
      have := leV_step (turnC (goC c1 e.1.1 p).2 w - turnC (goC c2 e.1.2 p).2 w) p l1 e2
      show leV (e.2.1 + (turnC (goC c1 e.1.1 p).2 w - turnC (goC c2 e.1.2 p).2 w), e.2.2 ++ [p]) _
      refine leP_tr this ?_
      rw [e1]
      exact leP_refl _
theorem best_lvl (c1 c2 : Cfg) (w : Wts) (n : Nat) : ∀ k, Best c1 c2 w (lvl c1 c2 w n k) (rowsP n k)
  | 0 => by
    refine ⟨fun e he => ⟨[], by show ([] : List Int) ∈ [[]]; simp, ?_⟩, fun ps hps => ?_⟩
    · have : e = ((st0 c1.g, st0 c2.g), 0, []) := by simpa [lvl] using he
      rw [this]
      rfl
    · have : ps = [] := by simpa [rowsP] using hps
      rw [this]
      exact ⟨_, List.mem_singleton.mpr rfl, rfl, leP_refl _⟩
  | k + 1 => best_step (best_lvl c1 c2 w n k)
theorem cands_len (c1 c2 : Cfg) (w : Wts) (n : Nat) : ∀ l : Lv, (candsOf c1 c2 w n l).length = l.length * n
  | [] => by unfold candsOf; simp
  | a :: l => by
    have ih := cands_len c1 c2 w n l
    unfold candsOf at ih ⊢
    rw [List.flatMap_cons, List.length_append, ih, List.length_map, List.length_cons, Nat.succ_mul]
    unfold plR
    rw [List.length_map, List.length_range]
    omega
theorem lvl_len (c1 c2 : Cfg) (w : Wts) (n : Nat) : ∀ k, (lvl c1 c2 w n k).length ≤ n ^ k
  | 0 => Nat.le_refl _
  | k + 1 => by
    have h := relaxs_len (candsOf c1 c2 w n (lvl c1 c2 w n k)) []
    rw [cands_len, List.length_nil] at h
    have h2 := Nat.mul_le_mul_right n (lvl_len c1 c2 w n k)
    show (stepLv c1 c2 w n (lvl c1 c2 w n k)).length ≤ n ^ (k + 1)
    unfold stepLv
    rw [Nat.pow_succ]
    omega
/-! ### the end -/
/-- the number told at the end -/
def idleD (w : Wts) (k : RSt × RSt) : Int := (((idleN k.1 : Nat) : Int) - ((idleN k.2 : Nat) : Int)) * w.c
def endV (w : Wts) (e : Cand) : Int × List Int := (0 - (e.2.1 + idleD w e.1), e.2.2)
theorem endV_le {w : Wts} {e f : Cand} (h1 : e.1 = f.1) (h2 : leV e.2 f.2) : leP (endV w e) (endV w f) := by
  unfold leV leP ngV at h2
  unfold leP endV
  rw [h1]
  rw [ltP_eq] at h2 ⊢
  dsimp only at h2 ⊢
  by_cases q : (0 - f.2.1 : Int) = 0 - e.2.1
  · rw [if_pos q] at h2
    rw [if_pos (by omega)]
    exact h2
  · rw [if_neg q] at h2
    rw [if_neg (by omega)]
    have h := of_decide_eq_false h2
    exact decide_eq_false (by omega)
theorem minOf_le : ∀ (ts : List (Int × List Int)) (x : Int × List Int), (PySem.W.minOf x ts ∈ x :: ts) ∧ ∀ y ∈ x :: ts, leP (PySem.W.minOf x ts) y
  | [], x => ⟨List.mem_cons_self, fun y hy => by
      have : y = x := by simpa using hy
      rw [this]
      exact leP_refl x⟩
  | t :: ts, x => by
    have e : PySem.W.minOf x (t :: ts) = PySem.W.minOf (if ltP t x = true then t else x) ts := rfl
    rw [e]
    obtain ⟨h1, h2⟩ := minOf_le ts (if ltP t x = true then t else x)
    have h0 := h2 _ List.mem_cons_self
    cases q : ltP t x with
    | true =>
      rw [q, if_pos rfl] at h1 h2 h0
      rw [if_pos rfl]
      refine ⟨List.mem_cons_of_mem _ h1, fun y hy => ?_⟩
      rcases List.mem_cons.mp hy with rfl | hy'
      · exact leP_tr h0 (leP_lt q)
      · exact h2 y hy'
    | false =>
      rw [q, if_neg (by decide)] at h1 h2 h0
      rw [if_neg (by decide)]
      refine ⟨?_, fun y hy => ?_⟩
      · rcases List.mem_cons.mp h1 with z | z
        · rw [z]; exact List.mem_cons_self
        · exact List.mem_cons_of_mem _ (List.mem_cons_of_mem _ z)
      · rcases List.mem_cons.mp hy with z | hy'
        · rw [z]; exact h0
        · rcases List.mem_cons.mp hy' with z | hy2
          · rw [z]; exact leP_tr h0 q
          · exact h2 y (List.mem_cons_of_mem _ hy2)
/-- the law's own number of a row -/
def moreL (c1 c2 : Cfg) (w : Wts) (ps : List Int) : Int := (fullOf c1 c2 w ps).2.1 + idleD w (fullOf c1 c2 w ps).1
/-- the law's: the first of the greatest -/
def bestL (f : List Int → Int) (b : Option (Int × List Int)) (ps : List Int) : Option (Int × List Int) := match b with
  | none => some (f ps, ps)
  | some o => if o.1 < f ps then some (f ps, ps) else some o
theorem bestL_le (f : List Int → Int) : ∀ (R S : List (List Int)) (o : Int × List Int), (S ++ R).Pairwise (fun a b => ltI a b = true) → o.2 ∈ S → o.1 = f o.2 → (∀ ps ∈ S, leP (0 - o.1, o.2) (0 - f ps, ps)) →
    ∃ ps ∈ S ++ R, R.foldl (bestL f) (some o) = some (f ps, ps) ∧ ∀ q ∈ S ++ R, leP (0 - f ps, ps) (0 - f q, q)
  | [], S, o, _, h1, h2, h3 => ⟨o.2, by rw [List.append_nil]; exact h1, by rw [← h2]; rfl, fun q hq => by rw [List.append_nil] at hq; rw [← h2]; exact h3 q hq⟩
  | r :: R, S, o, hp, h1, h2, h3 => by
    have ea : S ++ r :: R = (S ++ [r]) ++ R := by simp
    have hp' := hp
    rw [ea] at hp'
    have hr : ∀ s ∈ S, ltI s r = true := fun s hs => (List.pairwise_append.mp hp).2.2 s hs r List.mem_cons_self
    rw [List.foldl_cons, ea]
    by_cases c : o.1 < f r
    · have e : bestL f (some o) r = some (f r, r) := if_pos c
      rw [e]
      refine bestL_le f R (S ++ [r]) (f r, r) hp' (by simp) rfl fun ps hps => ?_
      rcases List.mem_append.mp hps with z | z
      · refine leP_tr (leP_lt ?_) (h3 ps z)
        rw [ltP_eq]
        dsimp only
        rw [if_neg (by omega)]
        exact decide_eq_true (by omega)
      · have : ps = r := by simpa using z
        rw [this]
        exact leP_refl _
    · have e : bestL f (some o) r = some o := if_neg c
      rw [e]
      refine bestL_le f R (S ++ [r]) o hp' (List.mem_append_left _ h1) h2 fun ps hps => ?_
      rcases List.mem_append.mp hps with z | z
      · exact h3 ps z
      · have : ps = r := by simpa using z
        rw [this]
        refine leP_lt ?_
        rw [ltP_eq]
        dsimp only
        by_cases d : (0 - o.1 : Int) = 0 - f r
        · rw [if_pos d]
          exact hr _ h1
        · rw [if_neg d]
          exact decide_eq_true (by omega)
/-- the program's and the law's are one -/
theorem worst_eq (c1 c2 : Cfg) (w : Wts) (n k : Nat) (x : Int × List Int) (ts : List (Int × List Int)) (hx : (lvl c1 c2 w n k).map (endV w) = x :: ts) :
    (rowsP n k).foldl (bestL (moreL c1 c2 w)) none = some (0 - (PySem.W.minOf x ts).1, (PySem.W.minOf x ts).2) := by
  have B := best_lvl c1 c2 w n k
  obtain ⟨m1, m2⟩ := minOf_le ts x
  rw [← hx] at m1 m2
  obtain ⟨e, he, em⟩ := List.mem_map.mp m1
  obtain ⟨ps1, hps1, ee⟩ := B.sub e he
  have hle : ∀ ps ∈ rowsP n k, leP (PySem.W.minOf x ts) (0 - moreL c1 c2 w ps, ps) := fun ps hps => by
    obtain ⟨f, hf, f1, f2⟩ := B.has ps hps
    exact leP_tr (m2 _ (List.mem_map.mpr ⟨f, hf, rfl⟩)) (endV_le f1 f2)
  have em' : PySem.W.minOf x ts = (0 - moreL c1 c2 w ps1, ps1) := by rw [← em, ee]; rfl
  have hs := rows_sorted n k
  cases hR : rowsP n k with
  | nil => rw [hR] at hps1; exact nomatch hps1
  | cons r R =>
    rw [hR] at hs
    obtain ⟨ps, hps, h1, h2⟩ := bestL_le (moreL c1 c2 w) R [r] (moreL c1 c2 w r, r) hs (by simp) rfl (fun q hq => by
      have : q = r := by simpa using hq
      rw [this]
      exact leP_refl _)
    rw [List.foldl_cons]
    show R.foldl (bestL (moreL c1 c2 w)) (some (moreL c1 c2 w r, r)) = _
    rw [h1]
    have hps' : ps ∈ rowsP n k := by rw [hR]; exact hps
    have a1 := hle ps hps'
    have a2 : leP (0 - moreL c1 c2 w ps, ps) (PySem.W.minOf x ts) := by
      rw [em']
      exact h2 ps1 (by rw [hR] at hps1; exact hps1)
    have := leP_anti a1 a2
    rw [this]
    show some (moreL c1 c2 w ps, ps) = some (0 - (0 - moreL c1 c2 w ps), ps)
    rw [show 0 - (0 - moreL c1 c2 w ps) = moreL c1 c2 w ps by omega]
end St

namespace St
open PySem PySem.Spec PyProof.Rows L2
/-! ### what a row costs, by the run and turn by turn -/
theorem evs_stW (t : Int) : ∀ (es : Evs) (s : RunS), (es.foldl (evS t) s).st = s.st
  | [], _ => rfl
  | e :: es, s => by
    rw [List.foldl_cons, evs_stW t es]
    unfold evS
    rfl
theorem deed_rs (c : Cfg) (t : Int) (d : Deed) (s : RunS) : (deedS c t d s).st = (goC c s.st d.1).1 ∧ (deedS c t d s).rows = s.rows ++ rowsE t (goC c s.st d.1).2 := by
  unfold deedS
  obtain ⟨d1, d2⟩ := doD_rows d ((goC c s.st d.1).2.foldl (evS t) { s with st := (goC c s.st d.1).1 })
  rw [d1, d2, evs_stW, evs_rowsE]
  exact ⟨rfl, rfl⟩
theorem cntW_cE (x : Str) : ∀ es : Evs, cntW x es = cE x es
  | [] => rfl
  | e :: es => by
    have ih := cntW_cE x es
    unfold cntW cE at ih ⊢
    rw [List.map_cons, List.count_cons, ih]
    by_cases q : e.1 = x
    · rw [List.filter_cons, if_pos (decide_eq_true q), List.length_cons, if_pos (by rw [q]; exact beq_self_eq_true x)]
    · rw [if_neg (fun z => q (eq_of_beq z)), List.filter_cons, if_neg (by rw [decide_eq_false q]; decide)]
      rfl
def wR (rs : List (Int × Str × Int)) (w : Wts) : Int := ((cR "late" rs : Nat) : Int) * w.a + ((cR "miss" rs : Nat) : Int) * w.b + ((cR "waste" rs : Nat) : Int) * w.c
theorem wR_app (a : List (Int × Str × Int)) (t : Int) (es : Evs) (w : Wts) : wR (a ++ rowsE t es) w = wR a w + turnC es w := by
  unfold wR turnC
  rw [cR_app, cR_app, cR_app, cR_rows, cR_rows, cR_rows, cntW_cE, cntW_cE, cntW_cE]
  push_cast
  rw [Int.add_mul, Int.add_mul, Int.add_mul]
  omega
def rdD (ps : List Int) : List Deed := ps.map fun p => (p, none)
theorem rdD_len (ps : List Int) : (rdD ps).length = ps.length := by unfold rdD; rw [List.length_map]
theorem rdD_good {n : Int} {ps : List Int} (h : ∀ p ∈ ps, 0 ≤ p ∧ p < n) : ∀ d ∈ rdD ps, Deed.Good n d := fun d hd => by
  obtain ⟨p, hp, rfl⟩ := List.mem_map.mp hd
  exact h p hp
theorem runTo_runC (s : Stg) (g : G) (w : Wts) (ps : List Int) : ∀ i, i ≤ ps.length → (runTo s g (rdD ps) i).st = (runC (cfgOf s g) w (ps.take i)).1 ∧ wR (runTo s g (rdD ps) i).rows w = (runC (cfgOf s g) w (ps.take i)).2
  | 0, _ => ⟨rfl, by show wR [] w = 0; unfold wR; simp [cR]⟩
  | i + 1, hi => by
    obtain ⟨h1, h2⟩ := runTo_runC s g w ps i (by omega)
    have hl : i < ps.length := by omega
    have e : (rdD ps)[i]? = some (ps[i], none) := by unfold rdD; rw [List.getElem?_map, List.getElem?_eq_getElem hl]; rfl
    have et : ps.take (i + 1) = ps.take i ++ [ps[i]] := by rw [List.take_add_one, List.getElem?_eq_getElem hl]; rfl
    rw [et, runC_snoc]
    unfold runTo
    rw [e]
    obtain ⟨d1, d2⟩ := deed_rs (cfgOf s g) ((i : Nat) : Int) (ps[i], none) (runTo s g (rdD ps) i)
    refine ⟨?_, ?_⟩
    · show (deedS _ _ _ _).st = _
      rw [d1, h1]
    · show wR (deedS _ _ _ _).rows w = _
      rw [d2, wR_app, h2, h1]
theorem costOf_runC (s : Stg) (g : G) (w : Wts) (ps : List Int) : costOf s (rdD ps) w g = (runC (cfgOf s g) w ps).2 + ((idleN (runC (cfgOf s g) w ps).1 : Nat) : Int) * w.c := by
  obtain ⟨h1, h2⟩ := runTo_runC s g w ps ps.length (Nat.le_refl _)
  rw [List.take_length] at h1 h2
  unfold costOf
  rw [rdD_len, ← h1, ← h2]
  unfold weigh countsP
  show ((cntP ["late"] _ : Nat) : Int) * w.a + ((cntP ["miss"] _ : Nat) : Int) * w.b + (((cntP ["waste"] _ : Nat) : Int) + ((idleN _ : Nat) : Int)) * w.c = _
  rw [cnt1, cnt1, cnt1, Int.add_mul]
  unfold wR
  omega
theorem moreL_cost (s : Stg) (g1 g2 : G) (w : Wts) (ps : List Int) : moreL (cfgOf s g1) (cfgOf s g2) w ps = costOf s (rdD ps) w g1 - costOf s (rdD ps) w g2 := by
  rw [costOf_runC, costOf_runC]
  unfold moreL idleD fullOf
  dsimp only
  rw [Int.sub_mul]
  omega
/-- what holds of a state behind so many turns -/
structure OkR (s : Stg) (g : G) (n : Nat) (r : RSt) : Prop where
  iv : InvS ((s.mem.length : Nat) : Int) s.rm s.ms r.1 r.2.1
  ft : Fit g r.2.2
  ok : okS n r.2.2
theorem runC_ok {s : Stg} {g : G} (w : Wts) (hs : s.Good) (hg : good 3 g = true) {ps : List Int} (hp : ∀ p ∈ ps, 0 ≤ p ∧ p < ((s.mem.length : Nat) : Int)) : OkR s g ps.length (runC (cfgOf s g) w ps).1 := by
  have iv := runTo_inv hs hg (rdD_good hp) (rdD ps).length (Nat.le_refl _)
  obtain ⟨h1, _⟩ := runTo_runC s g w ps ps.length (Nat.le_refl _)
  rw [List.take_length] at h1
  rw [rdD_len] at iv
  rw [← h1]
  exact ⟨iv.iv, iv.ft, iv.ok⟩
theorem turnC_le {es : Evs} {w : Wts} (h : w.Good) (hl : es.length ≤ 34) : 0 ≤ turnC es w ∧ turnC es w ≤ 1000 := by
  obtain ⟨⟨a0, a9⟩, ⟨b0, b9⟩, c0, c9⟩ := h
  have c1 := cntW_le "late" es
  have c2 := cntW_le "miss" es
  have c3 := cntW_le "waste" es
  unfold turnC
  have m1 : 0 ≤ ((cntW "late" es : Nat) : Int) * w.a := Int.mul_nonneg (by omega) a0
  have m2 : 0 ≤ ((cntW "miss" es : Nat) : Int) * w.b := Int.mul_nonneg (by omega) b0
  have m3 : 0 ≤ ((cntW "waste" es : Nat) : Int) * w.c := Int.mul_nonneg (by omega) c0
  have n1 : ((cntW "late" es : Nat) : Int) * w.a ≤ 34 * 9 := Int.mul_le_mul (by omega) a9 a0 (by omega)
  have n2 : ((cntW "miss" es : Nat) : Int) * w.b ≤ 34 * 9 := Int.mul_le_mul (by omega) b9 b0 (by omega)
  have n3 : ((cntW "waste" es : Nat) : Int) * w.c ≤ 34 * 9 := Int.mul_le_mul (by omega) c9 c0 (by omega)
  omega
/-- what worst tells -/
def worstP (s : Stg) (g1 g2 : G) (w : Wts) (n k : Nat) : Int × List Int := ((rowsP n k).foldl (bestL (moreL (cfgOf s g1) (cfgOf s g2) w)) none).getD (0, [])
end St

namespace St
open PySem PySem.Spec PyProof.Rows L2
abbrev s_both_behind : Stmt := topS 38
abbrev N_both_behind : List Str := ["house", "guessers", "states", "place", "weights", "found", "costs", "guesser", "state", "behind", "events"]
abbrev p_both_behind : List Str := ["house", "guessers", "states", "place", "weights"]
theorem sc_both_behind : FnScope N_both_behind p_both_behind (defScope s_both_behind) := ⟨rfl, rfl, rfl, by decide +kernel, rfl, by decide +kernel, by decide +kernel⟩
theorem walk_zipT {K : PySem.W.Frag} {a b : Addr} {xs ys : List V} {n : Nat} (hn : n = min xs.length ys.length) : Walk (RZ.ItzT K a b) n (fun H => SqT K H a xs ∧ SqT K H b ys) (YPair (fun i => xs[i]?) (fun i => ys[i]?)) := by
  subst hn
  refine ⟨fun i _ hi q => ?_, fun _ q => ⟨xs, ys, q.1, q.2, by omega⟩, fun i H v H' _ q y => ?_⟩
  · have h1 : i < xs.length := by omega
    have h2 : i < ys.length := by omega
    exact ⟨xs, ys, xs[i], ys[i], q.1, q.2, by simp [h1], by simp [h2]⟩
  · obtain ⟨T, x, z, h1, h2, h3, h4, h5⟩ := y
    exact ⟨T, x, z, h1, h2, h3, h4 xs q.1, h5 ys q.2⟩
section
variable {P : Program} {w : World} {K : PySem.W.Frag} {mg : Str → Option Value} {base : Heap} {f C f1 f2 f3 f4 f5 f6 f7 f8 f9 : Addr} {fd fd1 fd2 fd3 fd4 fd5 fd6 fd7 fd8 fd9 : FuncData}
def spBB (K : PySem.W.Frag) (C : Addr) : Sp := fun vs H Q _ => ∃ (h gp sp wp : Addr) (v1 v2 : V) (s : Stg) (g1 g2 : G) (p : Int) (r : RSt × RSt) (N : Nat) (wt : Wts), vs = [.ref h, .ref gp, .ref sp, .int p, .ref wp] ∧ IsH C H h ((s.mem.length : Nat) : Int) s.rm s.lt s.ms ∧ s.Good ∧
  SqT K H gp [v1, v2] ∧ IsG K H g1 v1 ∧ good 3 g1 = true ∧ IsG K H g2 v2 ∧ good 3 g2 = true ∧ IsPr K H sp r ∧ OkR s g1 N r.1 ∧ OkR s g2 N r.2 ∧ N ≤ 10000 ∧ IsW K H wp wt ∧ wt.Good ∧
  ∀ t b H', Same H H' → SqT K H' t [.ref b, .int (turnC (goC (cfgOf s g1) r.1 p).2 wt - turnC (goC (cfgOf s g2) r.2 p).2 wt)] → IsPr K H' b ((goC (cfgOf s g1) r.1 p).1, (goC (cfgOf s g2) r.2 p).1) → Q (.ref t) H'
theorem ok_both_behind (T : Nms mg) (HC : HouseC K C) (D_laid : Df K mg "laid" s_laid p_laid f1 fd1) (D_come : Df K mg "come" s_come p_come f2 fd2) (D_asked : Df K mg "asked" s_asked p_asked f3 fd3) (D_started : Df K mg "started" s_started p_started f4 fd4)
    (D_strided : Df K mg "strided" s_strided p_strided f5 fd5) (D_paired : Df K mg "paired" s_paired p_paired f6 fd6) (D_stepped : Df K mg "stepped" s_stepped p_stepped f7 fd7) (D_gone_on : Df K mg "gone_on" s_gone_on p_gone_on f8 fd8)
    (D_turn_cost : Df K mg "turn_cost" s_turn_cost p_turn_cost f9 fd9) (F : Fun K "both_behind" "both_behind" s_both_behind f fd) : FnOk P w K mg base CX0 7 f fd p_both_behind (spBB K C) := by
  have G_gone_on : FnOk P w K mg base CX0 6 f8 fd8 p_gone_on (spGone K C) := ok_gone_on T HC D_laid D_come D_asked D_started D_strided D_paired D_stepped D_gone_on.F
  have G_turn_cost : FnOk P w K mg base CX0 1 f9 fd9 p_turn_cost (spTC K) := ok_turn_cost D_turn_cost.F
  refine F.ok sc_both_behind (fun vs H Q E h => ?_) (fun cdv A outer s H vs Q E hr h => ?_)
  · obtain ⟨h, gp, sp, wp, v1, v2, s, g1, g2, p, r, N, wt, rfl, _⟩ := h
    rfl
  obtain ⟨h, gp, sp, wp, v1, v2, s, g1, g2, p, r, N, wt, rfl, hh, gS, hgp, hG1, gd1, hG2, gd2, ⟨a1, a2, hsp, i1, i2⟩, o1, o2, hN, hw, gw, q⟩ := h
  have step : ∀ (g : G) (r : RSt), good 3 g = true → OkR s g N r → r.1.length ≤ 100 ∧ r.2.1.length ≤ 100 ∧ (goC (cfgOf s g) r p).2.length ≤ 34 := fun g r hg o => by
    have l1 := o.iv.l1
    have l2 := o.iv.l2
    have r2 := gS.r2
    have w2 := gS.w2
    exact ⟨by omega, by omega, gone_len (cfg_ok gS hg) l2 o.ft o.ok⟩
  refine ⟨_, (pss_cons (ps_set (i := 5) sc_both_behind.nd rfl (Or.inl rfl) (pe_lst pa_nil))
  (pss_cons (ps_set (i := 6) sc_both_behind.nd rfl (Or.inl rfl) (pe_lst pa_nil))
  (pss_cons (ps_for PassesOwn.never rfl (RZ.pi_zipA (by rfl) T.n_zip (pa_cons (pv 1) (pa_cons (pv 2) pa_nil))) (pg_tup rfl (pgs_cons (pg_name (i := 7) sc_both_behind.nd rfl (Or.inl rfl)) (pgs_cons (pg_name (i := 8) sc_both_behind.nd rfl (Or.inl rfl)) pgs_nil)))
    (pss_cons (ps_asg (pe_call G_gone_on (hr.mono (by first | decide | omega)) (by rfl) D_gone_on.m D_gone_on.F.kp D_gone_on.b .nil pass0 (pa_cons (pv 0) (pa_cons (pv 7) (pa_cons (pv 8) (pa_cons (pv 3) pa_nil))))) (pg_tup rfl (pgs_cons (pg_name (i := 9) sc_both_behind.nd rfl (Or.inl rfl)) (pgs_cons (pg_name (i := 10) sc_both_behind.nd rfl (Or.inl rfl)) pgs_nil))))
    (pss_cons (ps_expr (pe_bm PySem.F.plainAttrs_list PySem.F.slot_list_append PySem.F.type_list_append mt_append (pv 5) (pa_cons (pv 9) pa_nil)))
    (pss_one (ps_expr (pe_bm PySem.F.plainAttrs_list PySem.F.slot_list_append PySem.F.type_list_append mt_append (pv 6) (pa_cons (pe_call G_turn_cost (hr.mono (by first | decide | omega)) (by rfl) D_turn_cost.m D_turn_cost.F.kp D_turn_cost.b .nil pass0 (pa_cons (pv 10) (pa_cons (pv 4) pa_nil))) pa_nil)))))))
  (pss_one (ps_ret (pe_tup (pa_cons (pe_callTy call_tuple_of (by rfl) T.n_tuple (by decide +kernel) (pa_cons (pv 5) pa_nil)) (pa_cons (pe_op op_sub (pe_ix ix_list (pv 6) pe_int (fun _ _ => rfl)) (pe_ix ix_list (pv 6) pe_int (fun _ _ => rfl))) pa_nil)))))))), ?_⟩
  refine ⟨Nat.zero_le _, fun F nF => ?_⟩
  refine ⟨Nat.zero_le _, fun L nL => ?_⟩
  have nL' : H L = none := by
    cases e : H L with
    | none => rfl
    | some o => rw [same_upd nF _ _ e] at nL; cases nL
  have nFL : F ≠ L := fun z => by subst z; rw [upd_same] at nL; cases nL
  have s0 : Same H (upd (upd H F (.lst [])) L (.lst [])) := (same_upd nF).trans (same_upd nL)
  refine ⟨_, rfl, _, rfl, gp, sp, _, _, rfl, .inr ⟨same_t s0 hgp, same_t s0 hsp, ?_⟩⟩
  refine for_it (walk_zipT (xs := [v1, v2]) (ys := [.ref a1, .ref a2]) rfl) (fun i σ H' => ∃ y7 y8 y9 y10 bs, σ = [some (.ref h), some (.ref gp), some (.ref sp), some (.int p), some (.ref wp), some (.ref F), some (.ref L), y7, y8, y9, y10] ∧ Same H H' ∧
    H' F = some (.lst (bs.map V.ref)) ∧ Paired (fun b (e : RSt × Int) => IsSt K H' b e.1) bs ([((goC (cfgOf s g1) r.1 p).1, turnC (goC (cfgOf s g1) r.1 p).2 wt), ((goC (cfgOf s g2) r.2 p).1, turnC (goC (cfgOf s g2) r.2 p).2 wt)].take i) ∧
    H' L = some (.lst ((([((goC (cfgOf s g1) r.1 p).1, turnC (goC (cfgOf s g1) r.1 p).2 wt), ((goC (cfgOf s g2) r.2 p).1, turnC (goC (cfgOf s g2) r.2 p).2 wt)].take i).map (·.2)).map V.int)))
    ⟨none, none, none, none, [], rfl, s0, by rw [upd_ne nFL]; exact upd_same, .nil, upd_same⟩ (fun i σ H' _ h => ?_) (fun i x σ H' H'' hi h y => ?_) (fun σ H' h => ?_)
  · obtain ⟨y7, y8, y9, y10, bs, rfl, s1, _⟩ := h
    exact ⟨same_t s1 hgp, same_t s1 hsp⟩
  · obtain ⟨y7, y8, y9, y10, bs, rfl, s1, eF, pb, eL⟩ := h
    obtain ⟨T0, x1, y1, rfl, nT, rfl, ex, ey⟩ := y
    obtain ⟨g, r0, a, rfl, hG, hgd, hi1, ho, tk⟩ : ∃ (g : G) (r0 : RSt) (a : Addr), y1 = .ref a ∧ IsG K H g x1 ∧ good 3 g = true ∧ IsSt K H a r0 ∧ OkR s g N r0 ∧
        ([((goC (cfgOf s g1) r.1 p).1, turnC (goC (cfgOf s g1) r.1 p).2 wt), ((goC (cfgOf s g2) r.2 p).1, turnC (goC (cfgOf s g2) r.2 p).2 wt)].take (i + 1)) = ([((goC (cfgOf s g1) r.1 p).1, turnC (goC (cfgOf s g1) r.1 p).2 wt), ((goC (cfgOf s g2) r.2 p).1, turnC (goC (cfgOf s g2) r.2 p).2 wt)].take i) ++ [((goC (cfgOf s g) r0 p).1, turnC (goC (cfgOf s g) r0 p).2 wt)] := by
      match i, hi with
      | 0, _ =>
        cases Option.some.inj ex
        cases Option.some.inj ey
        exact ⟨g1, r.1, a1, rfl, hG1, gd1, i1, o1, rfl⟩
      | 1, _ =>
        cases Option.some.inj ex
        cases Option.some.inj ey
        exact ⟨g2, r.2, a2, rfl, hG2, gd2, i2, o2, rfl⟩
    rw [tk]
    have lrs : ([((goC (cfgOf s g1) r.1 p).1, turnC (goC (cfgOf s g1) r.1 p).2 wt), ((goC (cfgOf s g2) r.2 p).1, turnC (goC (cfgOf s g2) r.2 p).2 wt)].take i).length ≤ 2 := by rw [List.length_take]; exact Nat.min_le_right _ _
    generalize ([((goC (cfgOf s g1) r.1 p).1, turnC (goC (cfgOf s g1) r.1 p).2 wt), ((goC (cfgOf s g2) r.2 p).1, turnC (goC (cfgOf s g2) r.2 p).2 wt)].take i) = rs at pb eL lrs ⊢
    have lbs : bs.length = rs.length := Paired.length pb
    obtain ⟨z1, z2, z3⟩ := step g r0 hgd ho
    have s2 : Same H' (upd H' T0 (.tup [x1, .ref a])) := same_upd nT
    have e2 : SqT K (upd H' T0 (.tup [x1, .ref a])) T0 [x1, .ref a] := sqt upd_same
    have eF2 := s2 _ _ eF
    have eL2 := s2 _ _ eL
    have pb2 : Paired (fun b (e : RSt × Int) => IsSt K (upd H' T0 (.tup [x1, .ref a])) b e.1) bs rs := Paired.mapP pb fun _ _ z => z.imm (Imm.same s2)
    have s12 := s1.trans s2
    generalize upd H' T0 (.tup [x1, .ref a]) = H2 at s2 e2 eF2 eL2 pb2 s12 ⊢
    refine ⟨T0, _, rfl, e2, rfl, _, _, rfl, _, _, rfl, rfl, ?_⟩
    and_intros
    refine ⟨h, a, x1, g, _, _, _, _, p, r0, N, rfl, hh.same s12, hG.same s12, hgd, hi1.imm (Imm.same s12), ho.ft, ho.ok, hN, gS.r1, z1, z2, fun q3 st ev H3 s3 nev e3 jst jev => ?_⟩
    have eF3 := s3 _ _ eF2
    have eL3 := s3 _ _ eL2
    have pb3 : Paired (fun b (e : RSt × Int) => IsSt K H3 b e.1) bs rs := Paired.mapP pb2 fun _ _ z => z.imm (Imm.same s3)
    have s13 := s12.trans s3
    have jst : IsSt K H3 st (goC (cfgOf s g) r0 p).1 := jst
    have jev : IsEv K H3 ev (goC (cfgOf s g) r0 p).2 := jev
    generalize goC (cfgOf s g) r0 p = go at jst jev z3 ⊢
    refine ⟨q3, _, rfl, sqt e3, rfl, _, _, rfl, _, _, rfl, rfl, ?_⟩
    refine ⟨_, rfl, .inl ⟨rfl, _, sql eF3⟩, _, rfl, _, _, _, rfl, rfl, eF3, by rw [List.length_map]; exact szl (by omega), ?_⟩
    have nF3 : ∀ c, LstAt H3 c → True := fun _ _ => True.intro
    have sX : SameX F H3 (upd H3 F (.lst (bs.map V.ref ++ [.ref st]))) := SameX.upd
    have imX : Imm H3 (upd H3 F (.lst (bs.map V.ref ++ [.ref st]))) := Imm.upd ⟨_, eF3⟩
    have eL4 := sX _ _ nFL.symm eL3
    have eF4 : (upd H3 F (.lst (bs.map V.ref ++ [.ref st]))) F = some (.lst ((bs ++ [st]).map V.ref)) := by rw [upd_same, List.map_append]; rfl
    have nevF : ev ≠ F := fun z => by
      rw [z, eF2] at nev
      cases nev
    have jev4 := jev
    obtain ⟨as4, ja, jb⟩ := jev4
    have jev4 : IsEv K (upd H3 F (.lst (bs.map V.ref ++ [.ref st]))) ev go.2 := ⟨as4, sX _ _ nevF ja, jb.imm imX⟩
    have s4 : Same H (upd H3 F (.lst (bs.map V.ref ++ [.ref st]))) := same_mut s13 nF
    have pb4 : Paired (fun b (e : RSt × Int) => IsSt K (upd H3 F (.lst (bs.map V.ref ++ [.ref st]))) b e.1) (bs ++ [st]) (rs ++ [(go.1, turnC go.2 wt)]) := Paired.snoc (Paired.mapP pb3 fun _ _ z => z.imm imX) (jst.imm imX)
    generalize upd H3 F (.lst (bs.map V.ref ++ [.ref st])) = H4 at eL4 eF4 jev4 s4 pb4 ⊢
    refine ⟨_, rfl, .inl ⟨rfl, _, sql eL4⟩, ?_⟩
    and_intros
    refine ⟨ev, wp, go.2, wt, rfl, jev4, same_t s4 hw, gw, by omega, fun H5 s5 => ?_⟩
    have eL5 := s5 _ _ eL4
    have eF5 := s5 _ _ eF4
    refine ⟨_, _, _, rfl, rfl, eL5, by rw [List.length_map, List.length_map]; exact szl (by omega), ?_⟩
    have s45 := s4.trans s5
    refine ⟨_, _, _, _, bs ++ [st], rfl, same_mut s45 nL', SameX.upd _ _ nFL eF5, Paired.mapP pb4 fun _ _ z => (z.imm (Imm.same s5)).imm (Imm.upd ⟨_, eL5⟩), ?_⟩
    rw [upd_same, List.map_append, List.map_append]
    rfl
  · obtain ⟨y7, y8, y9, y10, bs, rfl, s1, eF, pb, eL⟩ := h
    have eL : H' L = some (.lst [.int (turnC (goC (cfgOf s g1) r.1 p).2 wt), .int (turnC (goC (cfgOf s g2) r.2 p).2 wt)]) := eL
    have pb : Paired (fun b (e : RSt × Int) => IsSt K H' b e.1) bs [((goC (cfgOf s g1) r.1 p).1, turnC (goC (cfgOf s g1) r.1 p).2 wt), ((goC (cfgOf s g2) r.2 p).1, turnC (goC (cfgOf s g2) r.2 p).2 wt)] := pb
    cases pb with
    | cons p1 pb =>
      cases pb with
      | cons p2 pb =>
        cases pb
        rename_i b1 b2
        have eF : H' F = some (.lst [.ref b1, .ref b2]) := eF
        generalize hd1 : goC (cfgOf s g1) r.1 p = d1 at p1 eL q
        generalize hd2 : goC (cfgOf s g2) r.2 p = d2 at p2 eL q
        refine ⟨_, rfl, _, _, rfl, .inl ⟨sql eF, fun t nt => ?_⟩⟩
        have s2 : Same H' (upd H' t (.tup [.ref b1, .ref b2])) := same_upd nt
        have eL2 := s2 _ _ eL
        have et : SqT K (upd H' t (.tup [.ref b1, .ref b2])) t [.ref b1, .ref b2] := sqt upd_same
        have p1' := p1.imm (Imm.same s2)
        have p2' := p2.imm (Imm.same s2)
        have s12 := s1.trans s2
        generalize upd H' t (.tup [.ref b1, .ref b2]) = H2 at s2 eL2 et p1' p2' s12 ⊢
        refine ⟨_, rfl, _, _, _, _, rfl, rfl, sql eL2, atI_nat (j := 0) rfl, _, rfl, _, _, _, _, rfl, rfl, sql eL2, atI_nat (j := 1) rfl, _, _, rfl, rfl, ?_⟩
        refine ⟨sz_2, fun u nu => ?_⟩
        have s3 : Same H2 (upd H2 u (.tup [.ref t, .int (turnC d1.2 wt - turnC d2.2 wt)])) := same_upd nu
        exact q u t _ (s12.trans s3) (sqt upd_same) ⟨b1, b2, same_t s3 et, p1'.imm (Imm.same s3), p2'.imm (Imm.same s3)⟩
end
end St

namespace St
open PySem PySem.Spec PyProof.Rows L2
structure CnsR (mg : Str → Option Value) : Prop where
  MOST_ASKED : ∃ t, mg "MOST_ASKED" = some (.int 4 t)
  MOST_LENGTH : ∃ t, mg "MOST_LENGTH" = some (.int 7 t)
  MOST_ROWS : ∃ t, mg "MOST_ROWS" = some (.int 1024 t)
section
variable {P : Program} {w : World} {K : PySem.W.Frag} {mg : Str → Option Value} {base : Heap} {f : Addr} {fd : FuncData}
def spNR : Sp := fun vs H Q _ => ∃ (m : Int) (n k : Nat), vs = [.int m, .int ((n : Nat) : Int), .int ((k : Nat) : Int)] ∧ 1 ≤ n ∧ n ≤ 4 ∧ ((n : Nat) : Int) ≤ m ∧ k ≤ 7 ∧ n ^ k ≤ 1024 ∧ Q .non H
theorem ok_need_rows (T : Nms mg) (Cn : CnsR mg) (F : Fun K "need_rows" "need_rows" s_need_rows f fd) : FnOk P w K mg base CX0 1 f fd p_need_rows spNR := by
  refine F.ok sc_need_rows (fun vs H Q E h => ?_) (fun cdv A outer s H vs Q E hr h => ?_)
  · obtain ⟨m, n, k, rfl, _⟩ := h
    rfl
  obtain ⟨m, n, k, rfl, h1, h4, hm, hk, hp, q⟩ := h
  refine ⟨_, (pss_cons (ps_if (PW.pt (pw_or (pt_not (pt_chain op_le op_le pe_int (pv 1) (pe_callB (call_min2 rfl) (by rfl) T.n_min (by decide +kernel) (pa_cons (pe_gint (by rfl) Cn.MOST_ASKED) (pa_cons (pv 0) pa_nil))))) (pw_or1 (pt_not (pt_chain op_le op_le pe_int (pv 2) (pe_gint (by rfl) Cn.MOST_LENGTH))))))
    (pss_one (ps_never))
    (pss_nil))
  (pss_cons (ps_set (i := 3) sc_need_rows.nd rfl (Or.inl rfl) pe_int)
  (pss_cons (ps_for PassesOwn.never rfl (pi_range1 rfl T.n_range (pa_cons (pv 2) pa_nil)) (pg_name (i := 4) sc_need_rows.nd rfl (Or.inl rfl))
    (pss_one (ps_set (i := 3) sc_need_rows.nd rfl (Or.inl rfl) (pe_op op_mul (pv 3) (pv 1)))))
  (pss_one (ps_if (pt_cmpR op_gt (pv 3) (pe_gint (by rfl) Cn.MOST_ROWS) (nomark _))
    (pss_one (ps_never))
    (pss_nil)))))), ?_⟩
  and_intros
  refine iteB (decide_eq_true (show (1 : Int) ≤ ((n : Nat) : Int) by omega)) ?_
  and_intros
  refine ⟨_, _, rfl, ?_⟩
  refine ⟨_, _, rfl, rfl, _, rfl, ?_⟩
  rw [decide_eq_true (show ((n : Nat) : Int) ≤ (if m < 4 then m else 4) by split <;> omega)]
  refine iteB0 (b := !true) rfl ?_
  and_intros
  rw [decide_eq_true (show ((k : Nat) : Int) ≤ 7 by omega)]
  refine iteB0 (b := !true) rfl ?_
  refine ⟨_, rfl, _, rfl, by omega, by omega, ?_⟩
  rw [show (((k : Nat) : Int)).toNat = k from Int.toNat_natCast _]
  refine for_range (lo := 0) (n := k) (fun i σ H' => ∃ y4, σ = [some (.int m), some (.int ((n : Nat) : Int)), some (.int ((k : Nat) : Int)), some (.int ((n ^ i : Nat) : Int)), y4] ∧ H' = H) ⟨none, rfl, rfl⟩ (fun i σ H' hi h => ?_) (fun σ H' h => ?_)
  · obtain ⟨y4, rfl, rfl⟩ := h
    have hle : n ^ i ≤ n ^ k := Nat.pow_le_pow_right h1 (by omega)
    refine ⟨_, rfl, _, rfl, _, _, rfl, rfl, .inr (by omega), ?_⟩
    refine ⟨some (.int (0 + (i : Nat))), ?_, rfl⟩
    rw [Nat.pow_succ, Int.natCast_mul]
    rfl
  · obtain ⟨y4, rfl, rfl⟩ := h
    refine ⟨_, rfl, _, _, rfl, rfl, _, rfl, iteB0 (decide_eq_false (by omega)) ?_⟩
    exact q
end
end St

namespace St
open PySem PySem.Spec PyProof.Rows L2
/-! ### data of numbers, texts, lists and tuples: its form, and that it is like itself -/
def shp : Nat → PyData → Prop
  | _, .int _ => True
  | _, .none => True
  | _, .bool _ => True
  | _, .str x => PyData.canLay0 (.str x) = true
  | n + 1, .list xs => ∀ d ∈ xs, shp n d
  | n + 1, .tuple xs => ∀ d ∈ xs, shp n d
  | _, _ => False
theorem shp_all {n : Nat} : ∀ {xs : List PyData}, (∀ d ∈ xs, d.canLay0 = true ∧ d.depth ≤ n) → PyData.canLayAll0 xs = true ∧ PyData.depthAll xs ≤ n
  | [], _ => ⟨by simp [PyData.canLayAll0], by simp [PyData.depthAll]⟩
  | x :: xs, h => by
    obtain ⟨a, b⟩ := h x (List.mem_cons_self ..)
    obtain ⟨c, d⟩ := shp_all fun y hy => h y (List.mem_cons_of_mem _ hy)
    refine ⟨by simp [PyData.canLayAll0, a, c], ?_⟩
    simp only [PyData.depthAll]
    exact Nat.max_le.mpr ⟨b, d⟩
theorem shp_ok : ∀ {n : Nat} {d : PyData}, shp n d → d.canLay0 = true ∧ d.depth ≤ n
  | _, .int _, _ => ⟨by simp [PyData.canLay0], by simp [PyData.depth]⟩
  | _, .none, _ => ⟨by simp [PyData.canLay0], by simp [PyData.depth]⟩
  | _, .bool _, _ => ⟨by simp [PyData.canLay0], by simp [PyData.depth]⟩
  | n, .str x, h => ⟨by cases n <;> exact h, by simp [PyData.depth]⟩
  | 0, .list _, h => h.elim
  | 0, .tuple _, h => h.elim
  | 0, .dict _, h => h.elim
  | _ + 1, .dict _, h => h.elim
  | n + 1, .list xs, h => by
    obtain ⟨a, b⟩ := shp_all (n := n) fun d hd => shp_ok (h d hd)
    exact ⟨by simp only [PyData.canLay0]; exact a, by simp only [PyData.depth]; omega⟩
  | n + 1, .tuple xs, h => by
    obtain ⟨a, b⟩ := shp_all (n := n) fun d hd => shp_ok (h d hd)
    exact ⟨by simp only [PyData.canLay0]; exact a, by simp only [PyData.depth]; omega⟩
theorem shp_lay {n : Nat} {d : PyData} (h : shp n d) (hn : n ≤ 64) : SeqAt.shaped d = true := by
  obtain ⟨a, b⟩ := shp_ok h
  unfold SeqAt.shaped
  rw [Bool.and_eq_true]
  exact ⟨a, decide_eq_true (by omega)⟩
theorem shp_refl {n : Nat} {d : PyData} (h : shp n d) : PyData.eqv d d = true := SeqAt.eqv_refl d (shp_ok h).1
/-! rows, deeds -/
def dR (e : Int × Str × Int) : PyData := .tuple [.int e.1, .str e.2.1, .int e.2.2]
def dRs (rs : List (Int × Str × Int)) : PyData := .list (rs.map dR)
def dD : Deed → PyData
  | (p, none) => .tuple [.str "read", .int p]
  | (p, some v) => .tuple [.str "write", .int p, .int v]
theorem dp_pair {K : PySem.W.Frag} {H : Hp} {β : Type} {F : Addr → β → Prop} {D : β → PyData} (f : ∀ p b, F p b → Dp K H (.ref p) (D b)) : ∀ {as : List Addr} {bs : List β}, Paired F as bs → DpAll K H (as.map V.ref) (bs.map D)
  | _, _, .nil => .nil
  | _, _, .cons h t => .cons (f _ _ h) (dp_pair f t)
theorem dp_R {K : PySem.W.Frag} {H : Hp} {p : Addr} {e : Int × Str × Int} (h : SqT K H p [.int e.1, .str e.2.1, .int e.2.2]) : Dp K H (.ref p) (dR e) := .tup h (.cons (.int _) (.cons (.str _) (.cons (.int _) .nil)))
theorem dp_D {K : PySem.W.Frag} {H : Hp} {p : Addr} : ∀ {d : Deed}, IsDeed K H p d → Dp K H (.ref p) (dD d)
  | (_, none), h => .tup h (.cons (.str _) (.cons (.int _) .nil))
  | (_, some _), h => .tup h (.cons (.str _) (.cons (.int _) (.cons (.int _) .nil)))
theorem dp_Rs {K : PySem.W.Frag} {H : Hp} {a : Addr} {rs : List (Int × Str × Int)} (h : IsRs K H a rs) : Dp K H (.ref a) (dRs rs) := by
  obtain ⟨as, h1, h2⟩ := h
  exact .lst (sql h1) (dp_pair (fun _ _ z => dp_R z) h2)
theorem dp_Ds {K : PySem.W.Frag} {H : Hp} {a : Addr} {as : List Addr} {ds : List Deed} (h : SqL K H a (as.map V.ref)) (p : PrD K H as ds) : Dp K H (.ref a) (.list (ds.map dD)) := .lst h (dp_pair (fun _ _ z => dp_D z) p)
theorem shp_Ds (ds : List Deed) : shp 2 (.list (ds.map dD)) := by
  intro d hd
  obtain ⟨⟨p, v⟩, _, rfl⟩ := List.mem_map.mp hd
  cases v with
  | none =>
    intro e he
    simp only [List.mem_cons, List.not_mem_nil, or_false] at he
    rcases he with rfl | rfl
    · show PyData.canLay0 (.str "read") = true
      decide +kernel
    · trivial
  | some v =>
    intro e he
    simp only [List.mem_cons, List.not_mem_nil, or_false] at he
    rcases he with rfl | rfl | rfl
    · show PyData.canLay0 (.str "write") = true
      decide +kernel
    · trivial
    · trivial
theorem dep_Rs {rs : List (Int × Str × Int)} (h : rs.length ≤ 100000) : dep 3 (dRs rs) := by
  refine ⟨by rw [List.length_map]; exact h, fun d hd => ?_⟩
  obtain ⟨e, _, rfl⟩ := List.mem_map.mp hd
  refine ⟨by show 3 ≤ 100000; decide, fun d hd => ?_⟩
  simp only [List.mem_cons, List.not_mem_nil, or_false] at hd
  rcases hd with rfl | rfl | rfl <;> trivial
end St

namespace St
open PySem PySem.Spec PyProof.Rows L2
/-! ### guessers as data -/
def dG : G → PyData
  | .nil => .tuple []
  | .leaf w ns => .tuple (.str w :: ns.map .int)
  | .b1 a => .tuple [.str "both", dG a]
  | .both a b => .tuple [.str "both", dG a, dG b]
  | .b3 a b c => .tuple [.str "both", dG a, dG b, dG c]
theorem dpA_ints {K : PySem.W.Frag} {H : Hp} : ∀ l : List Int, DpAll K H (l.map V.int) (l.map PyData.int)
  | [] => .nil
  | a :: r => .cons (.int a) (dpA_ints r)
theorem dp_G {K : PySem.W.Frag} {H : Hp} : ∀ {g : G} {v : V}, IsG K H g v → Dp K H v (dG g)
  | .nil, _, ⟨_, rfl, h⟩ => .tup h .nil
  | .leaf _ ns, _, ⟨_, rfl, h⟩ => .tup h (.cons (.str _) (dpA_ints ns))
  | .b1 _, _, ⟨_, _, rfl, h, ha⟩ => .tup h (.cons (.str _) (.cons (dp_G ha) .nil))
  | .both _ _, _, ⟨_, _, _, rfl, h, ha, hb⟩ => .tup h (.cons (.str _) (.cons (dp_G ha) (.cons (dp_G hb) .nil)))
  | .b3 _ _ _, _, ⟨_, _, _, _, rfl, h, ha, hb, hc⟩ => .tup h (.cons (.str _) (.cons (dp_G ha) (.cons (dp_G hb) (.cons (dp_G hc) .nil))))
theorem good_up : ∀ {n : Nat} {g : G}, good n g = true → good (n + 1) g = true
  | _, .nil, h => by simp [good] at h
  | _, .b1 _, h => by simp [good] at h
  | _, .b3 _ _ _, h => by simp [good] at h
  | n, .leaf w ns, h => by unfold good at h ⊢; exact h
  | 0, .both _ _, h => by simp [good] at h
  | n + 1, .both a b, h => by
    have h' : (good n a && good n b) = true := h
    rw [Bool.and_eq_true] at h'
    show (good (n + 1) a && good (n + 1) b) = true
    rw [Bool.and_eq_true]
    exact ⟨good_up h'.1, good_up h'.2⟩
theorem lay_w {w : Str} (h : w = "none" ∨ w = "next" ∨ w = "stride" ∨ w = "pairs" ∨ w = "both") : PyData.canLay0 (.str w) = true := by
  rcases h with rfl | rfl | rfl | rfl | rfl <;> decide +kernel
theorem leaf_w {n : Nat} {w : Str} {ns : List Int} (h : good n (.leaf w ns) = true) : w = "none" ∨ w = "next" ∨ w = "stride" ∨ w = "pairs" ∨ w = "both" := by
  unfold good at h
  rw [Bool.or_eq_true] at h
  rcases h with h | h
  · exact .inl (of_decide_eq_true h).1
  · match ns, h with
    | [n], h =>
      rcases of_decide_eq_true h with h | h | h
      · exact .inr (.inl h.1)
      · exact .inr (.inr (.inl h.1))
      · exact .inr (.inr (.inr (.inl h.1)))
theorem shp_G : ∀ {n : Nat} {g : G}, good n g = true → shp (n + 1) (dG g)
  | _, .nil, h => by simp [good] at h
  | _, .b1 _, h => by simp [good] at h
  | _, .b3 _ _ _, h => by simp [good] at h
  | n, .leaf w ns, h => by
    intro d hd
    rcases List.mem_cons.mp hd with rfl | hd
    · cases n <;> exact lay_w (leaf_w h)
    · obtain ⟨i, _, rfl⟩ := List.mem_map.mp hd
      cases n <;> trivial
  | 0, .both _ _, h => by simp [good] at h
  | n + 1, .both a b, h => by
    have h' : (good n a && good n b) = true := h
    rw [Bool.and_eq_true] at h'
    intro d hd
    simp only [List.mem_cons, List.not_mem_nil, or_false] at hd
    rcases hd with rfl | rfl | rfl
    · exact lay_w (by simp)
    · exact shp_G h'.1
    · exact shp_G h'.2
def dGs (gs : List G) : PyData := .list (gs.map dG)
theorem shp_Gs {gs : List G} (h : ∀ g ∈ gs, good 3 g = true) : shp 5 (dGs gs) := by
  intro d hd
  obtain ⟨g, hg, rfl⟩ := List.mem_map.mp hd
  exact shp_G (h g hg)
def dPs (ps : List (Int × Int)) : PyData := .list (ps.map fun e => .tuple [.int e.1, .int e.2])
theorem dep_Ps {ps : List (Int × Int)} (h : ps.length ≤ 100000) : dep 3 (dPs ps) := by
  refine ⟨by rw [List.length_map]; exact h, fun d hd => ?_⟩
  obtain ⟨e, _, rfl⟩ := List.mem_map.mp hd
  refine ⟨by show 2 ≤ 100000; decide, fun d hd => ?_⟩
  simp only [List.mem_cons, List.not_mem_nil, or_false] at hd
  rcases hd with rfl | rfl <;> trivial
end St

namespace St
open PySem PySem.Spec PyProof.Rows L2
abbrev s_worst : Stmt := topS 40
abbrev N_worst : List Str := ["setting", "guesser", "other", "weights", "places", "length", "house", "guessers", "level", "turn", "behind", "states", "more", "row", "place", "there", "far", "choice", "found", "least"]
abbrev p_worst : List Str := ["setting", "guesser", "other", "weights", "places", "length"]
theorem sc_worst : FnScope N_worst p_worst (defScope s_worst) := ⟨rfl, rfl, rfl, by decide +kernel, rfl, by decide +kernel, by decide +kernel⟩
theorem walk_keysN {P : Program} {w : World} {d : Addr} {o : Obj} {xs : List NE} : Walk (ItN P w d o xs) xs.length (fun H => H d = some (.frz o (oN P w d xs))) (fun i H x H' => H' = H ∧ ∃ k v b, xs[i]? = some (k, b, v) ∧ x = .ref b) :=
  ⟨fun _ _ hi q => ⟨q, hi⟩, fun _ q => ⟨q, Nat.le_refl _⟩, fun _ _ _ _ _ _ y => y⟩
/-! ### a level as it lies in memory -/
/-- a number and a row in a tuple; the row's list is new -/
abbrev NN (H : Hp) : Addr → Prop := fun r => H r = none
def IsVal (K : PySem.W.Frag) (H0 : Addr → Prop) (H : Hp) (e : Int × List Int) (v : V) : Prop := ∃ t ra, v = .ref t ∧ SqT K H t [.int e.1, .ref ra] ∧ H ra = some (.lst (e.2.map V.int)) ∧ H0 ra
/-- the entries of a level -/
def LvE (K : PySem.W.Frag) (H0 : Addr → Prop) (H : Hp) (l : Lv) (xs : List NE) : Prop := Paired (fun (e : Cand) (x : NE) => x.1 = kP e.1 ∧ IsPr K H x.2.1 e.1 ∧ IsVal K H0 H e.2 x.2.2) l xs
theorem IsVal.x {K : PySem.W.Frag} {H0 : Addr → Prop} {H H' : Hp} {a : Addr} {e : Int × List Int} {v : V} (h : IsVal K H0 H e v) (s : SameX a H H') (im : Imm H H') (n : ∀ xs, H a ≠ some (.lst xs)) : IsVal K H0 H' e v := by
  obtain ⟨t, ra, e1, h1, h2, h3⟩ := h
  exact ⟨t, ra, e1, im.t h1, s _ _ (fun z => by subst z; exact n _ h2) h2, h3⟩
theorem IsVal.same {K : PySem.W.Frag} {H0 : Addr → Prop} {H H' : Hp} {e : Int × List Int} {v : V} (h : IsVal K H0 H e v) (s : Same H H') : IsVal K H0 H' e v := by
  obtain ⟨t, ra, e1, h1, h2, h3⟩ := h
  exact ⟨t, ra, e1, same_t s h1, s _ _ h2, h3⟩
theorem LvE.x {K : PySem.W.Frag} {H0 : Addr → Prop} {H H' : Hp} {a : Addr} {l : Lv} {xs : List NE} (h : LvE K H0 H l xs) (s : SameX a H H') (im : Imm H H') (n : ∀ xs, H a ≠ some (.lst xs)) : LvE K H0 H' l xs :=
  Paired.mapP h fun _ _ z => ⟨z.1, z.2.1.imm im, z.2.2.x s im n⟩
theorem LvE.same {K : PySem.W.Frag} {H0 : Addr → Prop} {H H' : Hp} {l : Lv} {xs : List NE} (h : LvE K H0 H l xs) (s : Same H H') : LvE K H0 H' l xs :=
  Paired.mapP h fun _ _ z => ⟨z.1, z.2.1.imm (Imm.same s), z.2.2.same s⟩
/-- candidates: of rows of so many places -/
def OkC (s : Stg) (g1 g2 : G) (w : Wts) (n m : Nat) (l : List Cand) : Prop := ∀ d ∈ l, ∃ ps : List Int, (∀ p ∈ ps, 0 ≤ p ∧ p < (n : Int)) ∧ ps.length = m ∧ d = fullOf (cfgOf s g1) (cfgOf s g2) w ps
theorem OkC.fit {s : Stg} {g1 g2 : G} {w : Wts} {n m : Nat} {l : List Cand} (h : OkC s g1 g2 w n m l) (hs : s.Good) (hn : n ≤ s.mem.length) (h1 : good 2 g1 = true) (h2 : good 2 g2 = true) : ∀ e ∈ l, OkR s g1 m e.1.1 ∧ OkR s g2 m e.1.2 := fun e he => by
  obtain ⟨ps, hp, rfl, rfl⟩ := h e he
  have hp' : ∀ p ∈ ps, 0 ≤ p ∧ p < ((s.mem.length : Nat) : Int) := fun p hpp => by have := hp p hpp; omega
  exact ⟨runC_ok w hs (good_up h1) hp', runC_ok w hs (good_up h2) hp'⟩
theorem OkC.len {s : Stg} {g1 g2 : G} {w : Wts} {n m : Nat} {l : List Cand} (h : OkC s g1 g2 w n m l) : ∀ e ∈ l, e.2.2.length = m := fun e he => by
  obtain ⟨ps, hp, rfl, rfl⟩ := h e he
  rfl
theorem lvl_ok (s : Stg) (g1 g2 : G) (w : Wts) (n k : Nat) : OkC s g1 g2 w n k (lvl (cfgOf s g1) (cfgOf s g2) w n k) := fun d hd => by
  obtain ⟨ps, hps, e⟩ := (best_lvl (cfgOf s g1) (cfgOf s g2) w n k).sub d hd
  exact ⟨ps, rows_in hps, rows_len hps, e⟩
theorem relaxs_sub (cs : List Cand) : ∀ d ∈ cs.foldl relax [], d ∈ cs := fun d hd => by
  have := relaxs_cov cs (l := []) (C := []) ⟨List.nodup_nil, fun _ m => (nomatch m), fun _ m => (nomatch m)⟩
  rw [List.nil_append] at this
  exact this.sub d hd
theorem lvl_nd (c1 c2 : Cfg) (w : Wts) (n : Nat) : ∀ k, ((lvl c1 c2 w n k).map (·.1)).Nodup
  | 0 => by show ([(st0 c1.g, st0 c2.g)] : List (RSt × RSt)).Nodup; simp
  | k + 1 => (relaxs_cov (candsOf c1 c2 w n (lvl c1 c2 w n k)) (l := []) (C := []) ⟨List.nodup_nil, fun _ m => (nomatch m), fun _ m => (nomatch m)⟩).nd
/-- what is held behind so many states, and so many places of the next -/
def part (c1 c2 : Cfg) (w : Wts) (n : Nat) (L : Lv) (j : Nat) (e : Cand) (m : Nat) : Lv := (candsOf c1 c2 w n (L.take j) ++ ((plR n).take m).map (candOf c1 c2 w e)).foldl relax []
theorem part_next (c1 c2 : Cfg) (w : Wts) {n : Nat} (L : Lv) (j : Nat) (e : Cand) {m : Nat} (h : m < n) : part c1 c2 w n L j e (m + 1) = relax (part c1 c2 w n L j e m) (candOf c1 c2 w e (0 + ((m : Nat) : Int))) := by
  unfold part
  rw [plR_take h, List.map_append, ← List.append_assoc, List.foldl_append]
  rfl
theorem part_zero (c1 c2 : Cfg) (w : Wts) (n : Nat) (L : Lv) (j : Nat) (e : Cand) : part c1 c2 w n L j e 0 = (candsOf c1 c2 w n (L.take j)).foldl relax [] := by
  unfold part
  rw [List.take_zero, List.map_nil, List.append_nil]
theorem part_end (c1 c2 : Cfg) (w : Wts) (n : Nat) (L : Lv) {j : Nat} {e : Cand} (h : L[j]? = some e) : part c1 c2 w n L j e n = (candsOf c1 c2 w n (L.take (j + 1))).foldl relax [] := by
  unfold part
  have : (plR n).take n = plR n := List.take_of_length_le (by unfold plR; rw [List.length_map, List.length_range]; omega)
  rw [this, List.take_add_one, h]
  unfold candsOf
  rw [List.flatMap_append]
  simp
theorem part_ok {s : Stg} {g1 g2 : G} {w : Wts} {n i : Nat} {L : Lv} (h : OkC s g1 g2 w n i L) {j : Nat} {e : Cand} (he : L[j]? = some e) (m : Nat) : OkC s g1 g2 w n (i + 1) (part (cfgOf s g1) (cfgOf s g2) w n L j e m) := fun d hd => by
  have step : ∀ f ∈ L, ∀ p ∈ plR n, ∃ ps : List Int, (∀ p ∈ ps, 0 ≤ p ∧ p < (n : Int)) ∧ ps.length = i + 1 ∧ candOf (cfgOf s g1) (cfgOf s g2) w f p = fullOf (cfgOf s g1) (cfgOf s g2) w ps := fun f hf p hp => by
    obtain ⟨ps, h1, h2, rfl⟩ := h f hf
    refine ⟨ps ++ [p], fun q hq => ?_, by rw [List.length_append, h2]; rfl, (full_cand _ _ _ _ _).symm⟩
    rcases List.mem_append.mp hq with z | z
    · exact h1 q z
    · have : q = p := by simpa using z
      rw [this]
      exact mem_plR.mp hp
  rcases List.mem_append.mp (relaxs_sub _ d hd) with z | z
  · obtain ⟨f, hf, z⟩ := List.mem_flatMap.mp z
    obtain ⟨p, hp, rfl⟩ := List.mem_map.mp z
    exact step f (List.mem_of_mem_take hf) p hp
  · obtain ⟨p, hp, rfl⟩ := List.mem_map.mp z
    exact step e (List.mem_of_getElem? he) p (List.mem_of_mem_take hp)
theorem part_len (c1 c2 : Cfg) (w : Wts) (n : Nat) (L : Lv) (j : Nat) (e : Cand) (m : Nat) : (part c1 c2 w n L j e m).length ≤ L.length * n + m := by
  have h1 := relaxs_len (candsOf c1 c2 w n (L.take j) ++ ((plR n).take m).map (candOf c1 c2 w e)) []
  rw [List.length_append, List.length_map, cands_len, List.length_take, List.length_take, List.length_nil] at h1
  have h2 : min j L.length * n ≤ L.length * n := Nat.mul_le_mul_right n (Nat.min_le_right _ _)
  unfold part
  omega
theorem LvE.ks {K : PySem.W.Frag} {H0 : Addr → Prop} {H : Hp} {l : Lv} {xs : List NE} {g1 g2 : G} {s : Stg} {m : Nat} (h : LvE K H0 H l xs) (h1 : good 2 g1 = true) (h2 : good 2 g2 = true) (f : ∀ e ∈ l, OkR s g1 m e.1.1 ∧ OkR s g2 m e.1.2) : KsN K H xs := by
  unfold LvE at h
  induction h with
  | nil => intro x hx; exact nomatch hx
  | @cons e x l xs z t ih =>
    intro y hy
    rcases List.mem_cons.mp hy with q | q
    · subst q
      obtain ⟨z1, z2, _⟩ := z
      have f0 := f e List.mem_cons_self
      rw [z1]
      exact ⟨z2.ky, kP_depth h1 f0.1.ft h2 f0.2.ft⟩
    · exact ih (fun a m => f a (List.mem_cons_of_mem _ m)) y q
theorem LvE.at_ {K : PySem.W.Frag} {H0 : Addr → Prop} {H : Hp} {l : Lv} {xs : List NE} (h : LvE K H0 H l xs) (k : RSt × RSt) : (lvAt l k = none ∧ atN xs (kP k) = none) ∨ ∃ o v, lvAt l k = some o ∧ atN xs (kP k) = some v ∧ IsVal K H0 H o v := by
  unfold LvE at h
  induction h with
  | nil => exact .inl ⟨rfl, rfl⟩
  | @cons e x l xs z t ih =>
    obtain ⟨z1, z2, z3⟩ := z
    by_cases q : kP e.1 = kP k
    · refine .inr ⟨e.2, x.2.2, ?_, ?_, z3⟩
      · simp [lvAt, List.find?_cons, q]
      · simp [atN, List.find?_cons, z1, q]
    · have a1 : lvAt (e :: l) k = lvAt l k := by simp [lvAt, List.find?_cons, q]
      have a2 : atN (x :: xs) (kP k) = atN xs (kP k) := by simp [atN, List.find?_cons, z1, q]
      rw [a1, a2]
      exact ih
theorem LvE.get {K : PySem.W.Frag} {H0 : Addr → Prop} {H : Hp} {l : Lv} {xs : List NE} (h : LvE K H0 H l xs) (nd : (l.map (·.1)).Nodup) {j : Nat} {k : NestedKey} {b : Addr} {v : V} (hx : xs[j]? = some (k, b, v)) :
    ∃ e v', l[j]? = some e ∧ k = kP e.1 ∧ IsPr K H b e.1 ∧ atN xs k = some v' ∧ IsVal K H0 H e.2 v' := by
  have hl : xs.length = l.length := (Paired.length h).symm
  have hj : j < l.length := by
    obtain ⟨a, _⟩ := List.getElem?_eq_some_iff.mp hx
    omega
  obtain ⟨y, hy, y1, y2, y3⟩ := L2.paired_get h (List.getElem?_eq_getElem hj)
  rw [hx] at hy
  cases hy
  refine ⟨l[j], ?_⟩
  have hm : l[j] ∈ l := List.getElem_mem hj
  rcases h.at_ l[j].1 with ⟨a1, a2⟩ | ⟨o, v', a1, a2, a3⟩
  · exact absurd rfl (lvAt_none a1 _ hm)
  · have e := nodup_key nd (lvAt_some a1) hm rfl
    have y1 : k = kP l[j].1 := y1
    have e2 : o = l[j].2 := congrArg Prod.snd e
    subst e2
    exact ⟨v', List.getElem?_eq_getElem hj, y1, y2, by rw [y1]; exact a2, a3⟩
theorem LvE.put {K : PySem.W.Frag} {H0 : Addr → Prop} {H : Hp} {l : Lv} {xs : List NE} (h : LvE K H0 H l xs) {k : RSt × RSt} {b : Addr} {o : Int × List Int} {v : V} (hb : IsPr K H b k) (hv : IsVal K H0 H o v) : LvE K H0 H (lvPut l k o) (putN xs (kP k) b v) := by
  have e : (lvAt l k).isSome = (atN xs (kP k)).isSome := by
    rcases h.at_ k with ⟨a1, a2⟩ | ⟨o', v', a1, a2, _⟩
    · rw [a1, a2]; rfl
    · rw [a1, a2]; rfl
  unfold lvPut putN
  rw [e]
  by_cases q : (atN xs (kP k)).isSome = true
  · rw [if_pos q, if_pos q]
    unfold LvE at h ⊢
    clear e q
    induction h with
    | nil => exact .nil
    | @cons e x l xs z t ih =>
      rw [List.map_cons, List.map_cons]
      refine .cons ?_ ih
      obtain ⟨z1, z2, z3⟩ := z
      by_cases q : kP e.1 = kP k
      · rw [if_pos q, if_pos (z1.trans q)]; exact ⟨z1, z2, hv⟩
      · rw [if_neg q, if_neg (fun y => q (z1.symm.trans y))]; exact ⟨z1, z2, z3⟩
  · rw [if_neg q, if_neg q]
    exact Paired.snoc h ⟨rfl, hb, hv⟩
theorem relax_mem (l : Lv) (c : Cand) : c.1 ∈ (relax l c).map (·.1) := by
  have put : c.1 ∈ (lvPut l c.1 c.2).map (·.1) := by
    unfold lvPut
    cases q : lvAt l c.1 with
    | none => simp
    | some o =>
      refine List.mem_map.mpr ⟨(c.1, c.2), List.mem_map.mpr ⟨(c.1, o), lvAt_some q, if_pos rfl⟩, rfl⟩
  unfold relax
  cases q : lvAt l c.1 with
  | none => exact put
  | some o =>
    show c.1 ∈ (if ltP (ngV c.2) (ngV o) = true then lvPut l c.1 c.2 else l).map (·.1)
    split
    · exact put
    · exact List.mem_map.mpr ⟨_, lvAt_some q, rfl⟩
theorem lvl_ne (c1 c2 : Cfg) (w : Wts) {n : Nat} (h : 1 ≤ n) (k : Nat) : lvl c1 c2 w n k ≠ [] := fun z => by
  have B := best_lvl c1 c2 w n k
  have hl : (rowsP n k).length = n ^ k := rows_count n k
  have hp : 0 < n ^ k := Nat.pow_pos h
  cases hR : rowsP n k with
  | nil => rw [hR] at hl; rw [← hl] at hp; exact absurd hp (by decide)
  | cons r R =>
    obtain ⟨e, he, _⟩ := B.has r (by rw [hR]; exact List.mem_cons_self)
    rw [z] at he
    exact nomatch he
theorem dp_intsW {K : PySem.W.Frag} {H : Hp} : ∀ l : List Int, DpAll K H (l.map V.int) (l.map PyData.int)
  | [] => .nil
  | a :: l => .cons (.int a) (dp_intsW l)
theorem dp_pr {K : PySem.W.Frag} {H : Hp} {t ra : Addr} {p : Int × List Int} (h1 : SqT K H t [.int p.1, .ref ra]) (h2 : H ra = some (.lst (p.2.map V.int))) : Dp K H (.ref t) (toDP p) :=
  .tup h1 (.cons (.int _) (.cons (.lst (sql h2) (dp_intsW _)) .nil))
theorem paired_to {α β : Type} {G : α → β → Prop} {l₁ : List α} {l₂ : List β} (h : Paired G l₁ l₂) {i : Nat} {a : α} {b : β} (ha : l₁[i]? = some a) (hb : l₂[i]? = some b) : G a b := by
  obtain ⟨b', h1, h2⟩ := L2.paired_get h ha
  rw [hb] at h1
  cases h1
  exact h2
theorem IsVal.dp {K : PySem.W.Frag} {H0 : Addr → Prop} {H : Hp} {p : Int × List Int} {v : V} (h : IsVal K H0 H p v) : Dp K H v (toDP p) := by
  obtain ⟨t, ra, rfl, h1, h2, _⟩ := h
  exact dp_pr h1 h2
theorem fresh {H H' : Hp} {p : Addr} (s : Same H H') (h : H' p = none) : H p = none := by
  cases e : H p with
  | none => rfl
  | some o => rw [s _ _ e] at h; cases h
theorem dp_all {K : PySem.W.Frag} {N : Addr → Prop} {H : Hp} {wt : Wts} {fs : List V} {L : Lv} (h : Paired (fun v d => IsVal K N H (endV wt d) v) fs L) : DpAll K H fs ((L.map (endV wt)).map toDP) := by
  induction h with
  | nil => exact .nil
  | cons a _ ih => exact .cons a.dp ih
theorem imm_ext {H : Hp} {d : Addr} {φ : Heap → Prop} {o : HO} (h : H d = some (.ext φ)) : Imm H (upd H d o) :=
  ⟨fun c xs e => by rw [upd_ne (fun z => by subst z; rw [h] at e; cases e)]; exact e, fun c o' u _ e => by rw [upd_ne (fun z => by subst z; rw [h] at e; cases e)]; exact e⟩
theorem imm_unl {H : Hp} {d : Addr} {od : Obj} {φ : Heap → Prop} {o : HO} (h : H d = some (.frz od (.ext φ))) : Imm H (upd H d o) :=
  ⟨fun c xs e => by rw [upd_ne (fun z => by subst z; rw [h] at e; cases e)]; exact e, fun c o' u k e => by
    rw [upd_ne (fun z => by subst z; rw [h] at e; cases e; rcases k with ⟨_, k⟩ | ⟨_, k⟩ <;> cases k)]; exact e⟩
section
variable {P : Program} {w : World} {K : PySem.W.Frag} {mg : Str → Option Value} {base : Heap} {f : Addr} {fd : FuncData}
/-- what worst leans on -/
structure WorstCo (K : PySem.W.Frag) (w : World) (mg : Str → Option Value) (C : Addr) where
  {dS dM fA fB fC fD fE fH f1 f2 f3 f4 f5 f6 f7 f8 f9 f10 f11 f12 f13 : Addr}
  {fdA fdB fdC fdD fdE fdH fd1 fd2 fd3 fd4 fd5 fd6 fd7 fd8 fd9 fd10 fd11 fd12 fd13 : FuncData}
  T : Nms mg
  B : Tab K w mg dS dM
  Cn : Cns mg
  Cr : CnsR mg
  hW : ∃ t, mg "MOST_WEIGHT" = some (.int 9 t)
  HC : HouseC K C
  KC_House : ClassD K mg "House" C fH
  D_House___init__ : Mf K C "__init__" "House.__init__" s_House___init__ p_House___init__ fH fdH
  D_is_guesser : Df K mg "is_guesser" s_is_guesser p_is_guesser fA fdA
  D_need_guesser : Df K mg "need_guesser" s_need_guesser p_need_guesser fB fdB
  D_need_setting : Df K mg "need_setting" s_need_setting p_need_setting fC fdC
  D_need_weights : Df K mg "need_weights" s_need_weights p_need_weights fD fdD
  D_need_rows : Df K mg "need_rows" s_need_rows p_need_rows fE fdE
  D_laid : Df K mg "laid" s_laid p_laid f1 fd1
  D_come : Df K mg "come" s_come p_come f2 fd2
  D_asked : Df K mg "asked" s_asked p_asked f3 fd3
  D_started : Df K mg "started" s_started p_started f4 fd4
  D_strided : Df K mg "strided" s_strided p_strided f5 fd5
  D_paired : Df K mg "paired" s_paired p_paired f6 fd6
  D_stepped : Df K mg "stepped" s_stepped p_stepped f7 fd7
  D_gone_on : Df K mg "gone_on" s_gone_on p_gone_on f8 fd8
  D_first_state : Df K mg "first_state" s_first_state p_first_state f9 fd9
  D_begun : Df K mg "begun" s_begun p_begun f10 fd10
  D_turn_cost : Df K mg "turn_cost" s_turn_cost p_turn_cost f11 fd11
  D_both_behind : Df K mg "both_behind" s_both_behind p_both_behind f12 fd12
  D_idle_in : Df K mg "idle_in" s_idle_in p_idle_in f13 fd13
def spWorst (K : PySem.W.Frag) : Sp := fun vs H Q _ => ∃ (sa wp : Addr) (v1 v2 : V) (s : Stg) (g1 g2 : G) (wt : Wts) (n k : Nat), vs = [.ref sa, v1, v2, .ref wp, .int ((n : Nat) : Int), .int ((k : Nat) : Int)] ∧ IsSet K H sa s ∧ s.Good ∧ IsG K H g1 v1 ∧ good 2 g1 = true ∧ IsG K H g2 v2 ∧ good 2 g2 = true ∧ IsW K H wp wt ∧ wt.Good ∧
  1 ≤ n ∧ n ≤ 4 ∧ n ≤ s.mem.length ∧ k ≤ 7 ∧ n ^ k ≤ 1024 ∧
  ∀ t ra H', Same H H' → H ra = none → SqT K H' t [.int (worstP s g1 g2 wt n k).1, .ref ra] → H' ra = some (.lst ((worstP s g1 g2 wt n k).2.map V.int)) → Q (.ref t) H'
theorem ok_worst {C : Addr} (O : WorstCo K w mg C) (F : Fun K "worst" "worst" s_worst f fd) : FnOk P w K mg base CX0 9 f fd p_worst (spWorst K) := by
  have T := O.T
  have KC_House := O.KC_House
  have D_need_setting := O.D_need_setting
  have D_need_guesser := O.D_need_guesser
  have D_need_weights := O.D_need_weights
  have D_need_rows := O.D_need_rows
  have D_House___init__ := O.D_House___init__
  have D_begun := O.D_begun
  have D_both_behind := O.D_both_behind
  have D_idle_in := O.D_idle_in
  have G_need_setting : FnOk P w K mg base CX0 1 O.fC O.fdC p_need_setting (spNeedSet K) := ok_need_setting T O.Cn D_need_setting.F
  have G_need_guesser : FnOk P w K mg base CX0 6 O.fB O.fdB p_need_guesser (spNeedG K) := ok_need_guesser T O.B O.D_is_guesser D_need_guesser
  have G_need_weights : FnOk P w K mg base CX0 1 O.fD O.fdD p_need_weights (spNW K) := ok_need_weights T O.hW D_need_weights.F
  have G_need_rows : FnOk P w K mg base CX0 1 O.fE O.fdE p_need_rows spNR := ok_need_rows T O.Cr D_need_rows.F
  have G_House___init__ : FnOk P w K mg base CX0 1 O.fH O.fdH p_House___init__ (spHouse K C) := ok_House___init__ T O.HC D_House___init__.F
  have G_begun : FnOk P w K mg base CX0 5 O.f10 O.fd10 p_begun (spBegun K) := ok_begun T O.D_first_state D_begun.F
  have G_both_behind : FnOk P w K mg base CX0 7 O.f12 O.fd12 p_both_behind (spBB K C) := ok_both_behind T O.HC O.D_laid O.D_come O.D_asked O.D_started O.D_strided O.D_paired O.D_stepped O.D_gone_on O.D_turn_cost D_both_behind.F
  have G_idle_in : FnOk P w K mg base CX0 1 O.f13 O.fd13 p_idle_in (spIdle K) := ok_idle_in T D_idle_in.F
  refine F.ok sc_worst (fun vs H Q E h => ?_) (fun cdv A outer s H vs Q E hr h => ?_)
  · obtain ⟨sa, wp, v1, v2, s, g1, g2, wt, n, k, rfl, _⟩ := h
    rfl
  obtain ⟨sa, wp, v1, v2, s, g1, g2, wt, n, k, rfl, hS, gS, hG1, gd1, hG2, gd2, hw, gw, n1, n4, nm, k7, nk, q⟩ := h
  refine ⟨_, (pss_cons (ps_expr (pe_call G_need_setting (hr.mono (by first | decide | omega)) (by rfl) D_need_setting.m D_need_setting.F.kp D_need_setting.b .nil pass0 (pa_cons (pv 0) pa_nil)))
  (pss_cons (ps_expr (pe_call G_need_guesser (hr.mono (by first | decide | omega)) (by rfl) D_need_guesser.m D_need_guesser.F.kp D_need_guesser.b .nil pass0 (pa_cons (pv 1) pa_nil)))
  (pss_cons (ps_expr (pe_call G_need_guesser (hr.mono (by first | decide | omega)) (by rfl) D_need_guesser.m D_need_guesser.F.kp D_need_guesser.b .nil pass0 (pa_cons (pv 2) pa_nil)))
  (pss_cons (ps_expr (pe_call G_need_weights (hr.mono (by first | decide | omega)) (by rfl) D_need_weights.m D_need_weights.F.kp D_need_weights.b .nil pass0 (pa_cons (pv 3) pa_nil)))
  (pss_cons (ps_expr (pe_call G_need_rows (hr.mono (by first | decide | omega)) (by rfl) D_need_rows.m D_need_rows.F.kp D_need_rows.b .nil pass0 (pa_cons (pe_callB call_len_seq (by rfl) T.n_len (by decide +kernel) (pa_cons (pe_ix ix_tup (pv 0) pe_int (fun _ _ => rfl)) pa_nil)) (pa_cons (pv 4) (pa_cons (pv 5) pa_nil)))))
  (pss_cons (ps_set (i := 6) sc_worst.nd rfl (Or.inl rfl) (pe_make KC_House.M G_House___init__ (hr.mono (by first | decide | omega)) (by rfl) KC_House.g D_House___init__.b .nil pass0 (pa_cons (pv 0) pa_nil)))
  (pss_cons (ps_set (i := 7) sc_worst.nd rfl (Or.inl rfl) (pe_tup (pa_cons (pv 1) (pa_cons (pv 2) pa_nil))))
  (pss_cons (ps_set (i := 8) sc_worst.nd rfl (Or.inl rfl) (pe_ndispK (P := P) (w := w) (K := K) (hn_of hr.units) (pe_tup (pa_cons (pe_call G_begun (hr.mono (by first | decide | omega)) (by rfl) D_begun.m D_begun.F.kp D_begun.b .nil pass0 (pa_cons (pv 1) pa_nil)) (pa_cons (pe_call G_begun (hr.mono (by first | decide | omega)) (by rfl) D_begun.m D_begun.F.kp D_begun.b .nil pass0 (pa_cons (pv 2) pa_nil)) pa_nil))) (pe_tup (pa_cons pe_int (pa_cons (pe_lst pa_nil) pa_nil)))))
  (pss_cons (ps_for PassesOwn.never rfl (pi_range1 rfl T.n_range (pa_cons (pv 5) pa_nil)) (pg_name (i := 9) sc_worst.nd rfl (Or.inl rfl))
    (pss_cons (ps_set (i := 10) sc_worst.nd rfl (Or.inl rfl) (pe_nnewK (P := P) (w := w)))
    (pss_cons (ps_lock (ps_for PassesOwn.never rfl (pi_keysNK (P := P) (w := w) (pv 8)) (pg_name (i := 11) sc_worst.nd rfl (Or.inl rfl))
      (pss_cons (ps_asg (pe_ngetK (P := P) (w := w) (K := K) (hn_of hr.units) (pv 8) (pv 11) (fun _ _ => rfl)) (pg_tup rfl (pgs_cons (pg_name (i := 12) sc_worst.nd rfl (Or.inl rfl)) (pgs_cons (pg_name (i := 13) sc_worst.nd rfl (Or.inl rfl)) pgs_nil))))
      (pss_one (ps_for PassesOwn.never rfl (pi_range1 rfl T.n_range (pa_cons (pv 4) pa_nil)) (pg_name (i := 14) sc_worst.nd rfl (Or.inl rfl))
        (pss_cons (ps_asg (pe_call G_both_behind (hr.mono (by first | decide | omega)) (by rfl) D_both_behind.m D_both_behind.F.kp D_both_behind.b .nil pass0 (pa_cons (pv 6) (pa_cons (pv 7) (pa_cons (pv 11) (pa_cons (pv 14) (pa_cons (pv 3) pa_nil)))))) (pg_tup rfl (pgs_cons (pg_name (i := 15) sc_worst.nd rfl (Or.inl rfl)) (pgs_cons (pg_name (i := 16) sc_worst.nd rfl (Or.inl rfl)) pgs_nil))))
        (pss_cons (ps_set (i := 17) sc_worst.nd rfl (Or.inl rfl) (pe_tup (pa_cons (pe_op op_sub (pe_op op_sub pe_int (pv 12)) (pv 16)) (pa_cons (pe_op op_cat (pv 13) (pe_lst (pa_cons (pv 14) pa_nil))) pa_nil))))
        (pss_one (ps_if (PW.pt (pw_or (pt_cmp (pc_nnotinK (P := P) (w := w) (K := K) (hn_of hr.units) (pv 15) (pv 10)) rfl) (pw_or1 (pt_cmpR (op_ltDK (K := K) (hn_of hr.units)) (pv 17) (pe_tup (pa_cons (pe_op op_sub pe_int (pe_ix ix_tup (pe_ngetK (P := P) (w := w) (K := K) (hn_of hr.units) (pv 10) (pv 15) (fun _ _ => rfl)) pe_int (fun _ _ => rfl))) (pa_cons (pe_ix ix_tup (pe_ngetK (P := P) (w := w) (K := K) (hn_of hr.units) (pv 10) (pv 15) (fun _ _ => rfl)) pe_int (fun _ _ => rfl)) pa_nil))) (nomark _)))))
          (pss_one (ps_nputK (P := P) (w := w) (K := K) (hn_of hr.units) (pv 10) (pv 15) (pe_tup (pa_cons (pe_op op_add (pv 12) (pv 16)) (pa_cons (pe_ix ix_tup (pv 17) pe_int (fun _ _ => rfl)) pa_nil))) rfl))
          (pss_nil))))))))))
    (pss_one (ps_set (i := 8) sc_worst.nd rfl (Or.inl rfl) (pv 10))))))
  (pss_cons (ps_set (i := 18) sc_worst.nd rfl (Or.inl rfl) (pe_lst pa_nil))
  (pss_cons (ps_lock (ps_for PassesOwn.never rfl (pi_keysNK (P := P) (w := w) (pv 8)) (pg_name (i := 11) sc_worst.nd rfl (Or.inl rfl))
    (pss_cons (ps_asg (pe_ngetK (P := P) (w := w) (K := K) (hn_of hr.units) (pv 8) (pv 11) (fun _ _ => rfl)) (pg_tup rfl (pgs_cons (pg_name (i := 12) sc_worst.nd rfl (Or.inl rfl)) (pgs_cons (pg_name (i := 13) sc_worst.nd rfl (Or.inl rfl)) pgs_nil))))
    (pss_cons (ps_set (i := 12) sc_worst.nd rfl (Or.inl rfl) (pe_op op_add (pv 12) (pe_op op_mul (pe_op op_sub (pe_call G_idle_in (hr.mono (by first | decide | omega)) (by rfl) D_idle_in.m D_idle_in.F.kp D_idle_in.b .nil pass0 (pa_cons (pe_ix ix_tup (pv 11) pe_int (fun _ _ => rfl)) pa_nil)) (pe_call G_idle_in (hr.mono (by first | decide | omega)) (by rfl) D_idle_in.m D_idle_in.F.kp D_idle_in.b .nil pass0 (pa_cons (pe_ix ix_tup (pv 11) pe_int (fun _ _ => rfl)) pa_nil))) (pe_ix ix_tup (pv 3) pe_int (fun _ _ => rfl)))))
    (pss_one (ps_expr (pe_bm PySem.F.plainAttrs_list PySem.F.slot_list_append PySem.F.type_list_append mt_append (pv 18) (pa_cons (pe_tup (pa_cons (pe_op op_sub pe_int (pv 12)) (pa_cons (pv 13) pa_nil))) pa_nil))))))))
  (pss_cons (ps_set (i := 19) sc_worst.nd rfl (Or.inl rfl) (pe_callB (cr_minDK (K := K) rfl (hn_of hr.units)) (by rfl) T.n_min (by decide +kernel) (pa_cons (pv 18) pa_nil)))
  (pss_one (ps_ret (pe_tup (pa_cons (pe_op op_sub pe_int (pe_ix ix_tup (pv 19) pe_int (fun _ _ => rfl))) (pa_cons (pe_ix ix_tup (pv 19) pe_int (fun _ _ => rfl)) pa_nil))))))))))))))))), ?_⟩
  and_intros
  refine ⟨sa, s, rfl, hS, gS, fun H1 s1 => ?_⟩
  and_intros
  refine ⟨v1, g1, rfl, hG1.same s1, good_up gd1, fun H2 s2 => ?_⟩
  have s12 := s1.trans s2
  and_intros
  refine ⟨v2, g2, rfl, hG2.same s12, good_up gd2, fun H3 s3 => ?_⟩
  have s13 := s12.trans s3
  and_intros
  refine ⟨wp, wt, rfl, same_t s13 hw, gw, fun H4 s4 => ?_⟩
  have s14 := s13.trans s4
  obtain ⟨m, m1, m2⟩ := hS.imm (Imm.same s14)
  refine ⟨_, rfl, _, _, _, _, rfl, rfl, m1, atI_nat (j := 0) rfl, _, _, rfl, .inr m2, _, rfl, _, rfl, ?_⟩
  refine ⟨_, n, k, rfl, n1, n4, by rw [List.length_map]; omega, k7, nk, ?_⟩
  refine ⟨_, rfl, ?_⟩
  intro x dx nx ndx nex
  have sB : Same H4 (upd (upd H4 dx (.own x)) x (.ins C dx [])) := fun b o e => by
    rw [upd_ne (ne_of_none e nx), upd_ne (ne_of_none e ndx)]
    exact e
  refine ⟨x, sa, dx, s, rfl, upd_same, hS.imm (Imm.same (s14.trans sB)), fun H5 s5 hh => ?_⟩
  have s15 := s14.trans (sameX_same sB s5 nx)
  refine ⟨rfl, ?_⟩
  have hh5 : IsH C H5 x ((s.mem.length : Nat) : Int) s.rm s.lt s.ms := hh
  refine ⟨_, rfl, _, rfl, ?_⟩
  refine ⟨sz_2, fun gp ngp => ?_⟩
  have s16 := s15.trans (same_upd (o := .tup [v1, v2]) ngp)
  have hh6 := hh5.same (same_upd (o := .tup [v1, v2]) ngp)
  have egp : SqT K (upd H5 gp (.tup [v1, v2])) gp [v1, v2] := sqt upd_same
  generalize upd H5 gp (.tup [v1, v2]) = Hb at s16 hh6 egp ⊢
  refine fun lv nlv => ?_
  have t1 : Same Hb (upd Hb lv (oN P w lv [])) := same_upd nlv
  have el1 : (upd Hb lv (oN P w lv [])) lv = some (oN P w lv []) := upd_same
  generalize upd Hb lv (oN P w lv []) = Hc at t1 el1 ⊢
  refine ⟨_, rfl, ?_⟩
  refine ⟨v1, g1, rfl, (hG1.same s16).same t1, good_up gd1, fun b1 Hd t2 j1 => ?_⟩
  refine ⟨_, rfl, ?_⟩
  refine ⟨v2, g2, rfl, ((hG2.same s16).same t1).same t2, good_up gd2, fun b2 He t3 j2 => ?_⟩
  refine ⟨sz_2, fun kp nkp => ?_⟩
  have t4 := ((t1.trans t2).trans t3).trans (same_upd (o := .tup [.ref b1, .ref b2]) nkp)
  have j3 : IsPr K (upd He kp (.tup [.ref b1, .ref b2])) kp (st0 g1, st0 g2) := ⟨b1, b2, sqt upd_same, j1.imm (Imm.same (t3.trans (same_upd nkp))), j2.imm (Imm.same (same_upd nkp))⟩
  have el2 := (same_upd (o := .tup [.ref b1, .ref b2]) nkp) _ _ (t3 _ _ (t2 _ _ el1))
  generalize upd He kp (.tup [.ref b1, .ref b2]) = Hf at t4 j3 el2 ⊢
  refine ⟨Nat.zero_le _, fun ra0 nra0 => ?_⟩
  refine ⟨sz_2, fun tv0 ntv0 => ?_⟩
  have t5 := same_upd (o := .lst []) nra0
  have t6 := same_upd (o := .tup [.int 0, .ref ra0]) ntv0
  have ev0 : IsVal K (NN H) (upd (upd Hf ra0 (.lst [])) tv0 (.tup [.int 0, .ref ra0])) (0, []) (.ref tv0) := ⟨tv0, ra0, rfl, sqt upd_same, t6 _ _ upd_same, fresh (s16.trans (t4)) nra0⟩
  have j4 := j3.imm (Imm.same (t5.trans t6))
  have el3 := t6 _ _ (t5 _ _ el2)
  have t7 := t4.trans (t5.trans t6)
  generalize upd (upd Hf ra0 (.lst [])) tv0 (.tup [.int 0, .ref ra0]) = Hg at ev0 j4 el3 t7 ⊢
  have kd0 : (kP (st0 g1, st0 g2)).depth ≤ 8 := kP_depth gd1 (fit_first gd1) gd2 (fit_first gd2)
  refine ⟨kp, kP (st0 g1, st0 g2), rfl, el3, j4.ky, kd0, ?_⟩
  have ne1 : ∀ ys, Hg lv ≠ some (.lst ys) := fun ys z => by rw [el3] at z; cases z
  have im1 : Imm Hg (upd Hg lv (oN P w lv [(kP (st0 g1, st0 g2), kp, .ref tv0)])) := imm_ext el3
  have lv0 : LvE K (NN H) (upd Hg lv (oN P w lv [(kP (st0 g1, st0 g2), kp, .ref tv0)])) (lvl (cfgOf s g1) (cfgOf s g2) wt n 0) [(kP (st0 g1, st0 g2), kp, .ref tv0)] :=
    .cons ⟨rfl, j4.imm im1, ev0.x SameX.upd im1 ne1⟩ .nil
  have t8 : Same Hb (upd Hg lv (oN P w lv [(kP (st0 g1, st0 g2), kp, .ref tv0)])) := same_mut t7 nlv
  have el4 : (upd Hg lv (oN P w lv [(kP (st0 g1, st0 g2), kp, .ref tv0)])) lv = some (oN P w lv [(kP (st0 g1, st0 g2), kp, .ref tv0)]) := upd_same
  generalize upd Hg lv (oN P w lv [(kP (st0 g1, st0 g2), kp, .ref tv0)]) = Hh at lv0 t8 el4 ⊢
  refine ⟨_, rfl, _, rfl, by omega, by omega, ?_⟩
  rw [show (((k : Nat) : Int)).toNat = k from Int.toNat_natCast _]
  refine for_range (lo := 0) (n := k) (fun i σ H' => ∃ lv xs y9 y10 y11 y12 y13 y14 y15 y16 y17 y18 y19, σ = [some (.ref sa), some v1, some v2, some (.ref wp), some (.int ((n : Nat) : Int)), some (.int ((k : Nat) : Int)), some (.ref x), some (.ref gp), some (.ref lv), y9, y10, y11, y12, y13, y14, y15, y16, y17, y18, y19] ∧ Hb lv = none ∧ Same Hb H' ∧
    H' lv = some (oN P w lv xs) ∧ LvE K (NN H) H' (lvl (cfgOf s g1) (cfgOf s g2) wt n i) xs)
    ⟨lv, _, none, none, none, none, none, none, none, none, none, none, none, rfl, nlv, t8, el4, lv0⟩ (fun i σ H' hi h => ?_) (fun σ H' h => ?_)
  · clear lv0 t8 el4 nlv t1 t2 t3 t4 t5 t6 t7 el1 el2 el3 ev0 j1 j2 j3 j4 kd0 ne1 im1 nkp nra0 ntv0
    clear lv
    obtain ⟨lv, xs, y9, y10, y11, y12, y13, y14, y15, y16, y17, y18, y19, rfl, nlv, u1, el, hl⟩ := h
    have hik : n ^ i ≤ n ^ k := Nat.pow_le_pow_right n1 (by omega)
    have Ll := lvl_len (cfgOf s g1) (cfgOf s g2) wt n i
    have Lo := lvl_ok s g1 g2 wt n i
    have Ln := lvl_nd (cfgOf s g1) (cfgOf s g2) wt n i
    have Ls : lvl (cfgOf s g1) (cfgOf s g2) wt n (i + 1) = (candsOf (cfgOf s g1) (cfgOf s g2) wt n (lvl (cfgOf s g1) (cfgOf s g2) wt n i)).foldl relax [] := rfl
    generalize lvl (cfgOf s g1) (cfgOf s g2) wt n i = L at hl Ll Lo Ln Ls
    have Lsz : L.length * n ≤ 1024 * 4 := Nat.mul_le_mul (by omega) n4
    have Lf := Lo.fit gS nm gd1 gd2
    refine fun pb npb => ?_
    have npb0 := fresh u1 npb
    have nlp : lv ≠ pb := fun z => by subst z; rw [el] at npb; cases npb
    have u2 : Same H' (upd H' pb (oN P w pb [])) := same_upd npb
    have el2 := u2 _ _ el
    have ep : (upd H' pb (oN P w pb [])) pb = some (oN P w pb []) := upd_same
    have hl2 := hl.same u2
    have u12 := u1.trans u2
    generalize upd H' pb (oN P w pb []) = H1 at u2 el2 ep hl2 u12 ⊢
    refine ⟨lv, _, el2, True.intro, fun od => ?_⟩
    have u4 : Same Hb (upd H1 lv (.frz od (oN P w lv xs))) := same_mut u12 nlv
    have hl3 := hl2.x (SameX.upd (o := .frz od (oN P w lv xs))) (imm_ext el2) (fun ys z => by rw [el2] at z; cases z)
    have el3 : (upd H1 lv (.frz od (oN P w lv xs))) lv = some (.frz od (oN P w lv xs)) := upd_same
    have ep3 : (upd H1 lv (.frz od (oN P w lv xs))) pb = some (oN P w pb []) := by rw [upd_ne nlp.symm]; exact ep
    generalize upd H1 lv (.frz od (oN P w lv xs)) = H2 at u4 hl3 el3 ep3 ⊢
    refine ⟨_, rfl, lv, od, xs, rfl, el3, ?_⟩
    refine for_it walk_keysN (fun j σ H' => ∃ ys y11 y12 y13 y14 y15 y16 y17, σ = [some (.ref sa), some v1, some v2, some (.ref wp), some (.int ((n : Nat) : Int)), some (.int ((k : Nat) : Int)), some (.ref x), some (.ref gp), some (.ref lv), some (.int (0 + ((i : Nat) : Int))), some (.ref pb), y11, y12, y13, y14, y15, y16, y17, y18, y19] ∧ Same Hb H' ∧
      H' lv = some (.frz od (oN P w lv xs)) ∧ LvE K (NN H) H' L xs ∧ H' pb = some (oN P w pb ys) ∧ LvE K (NN H) H' ((candsOf (cfgOf s g1) (cfgOf s g2) wt n (L.take j)).foldl relax []) ys)
      ⟨[], y11, y12, y13, y14, y15, y16, y17, rfl, u4, el3, hl3, ep3, .nil⟩ (fun j σ H' _ h => ?_) (fun j x0 σ H' H'' hj h y => ?_) (fun σ H' h => ?_)
    · obtain ⟨ys, y11, y12, y13, y14, y15, y16, y17, rfl, u5, el5, _⟩ := h
      exact el5
    · obtain ⟨ys, y11, y12, y13, y14, y15, y16, y17, rfl, u5, el5, hl5, ep5, hb5⟩ := h
      obtain ⟨rfl, kk, v, b, hx, rfl⟩ := y
      obtain ⟨e, v', he, rfl, jb, ha, tv, ra, rfl, hv1, hv2, hv3⟩ := hl5.get Ln hx
      refine ⟨_, rfl, _, rfl, lv, b, kP e.1, xs, _, rfl, rfl, .inr ⟨od, el5⟩, hl5.ks gd1 gd2 Lf, jb.ky, kP_depth gd1 (Lf e (List.mem_of_getElem? he)).1.ft gd2 (Lf e (List.mem_of_getElem? he)).2.ft, ha, ?_⟩
      refine ⟨tv, _, rfl, hv1, rfl, _, _, rfl, _, _, rfl, rfl, ?_⟩
      refine ⟨_, rfl, _, rfl, by omega, by omega, ?_⟩
      rw [show (((n : Nat) : Int)).toNat = n from Int.toNat_natCast _]
      refine for_range (lo := 0) (n := n) (fun m σ H' => ∃ ys y14 y15 y16 y17, σ = [some (.ref sa), some v1, some v2, some (.ref wp), some (.int ((n : Nat) : Int)), some (.int ((k : Nat) : Int)), some (.ref x), some (.ref gp), some (.ref lv), some (.int (0 + ((i : Nat) : Int))), some (.ref pb), some (.ref b), some (.int e.2.1), some (.ref ra), y14, y15, y16, y17, y18, y19] ∧ Same Hb H' ∧
        H' lv = some (.frz od (oN P w lv xs)) ∧ LvE K (NN H) H' L xs ∧ H' pb = some (oN P w pb ys) ∧ LvE K (NN H) H' (part (cfgOf s g1) (cfgOf s g2) wt n L j e m) ys ∧ IsPr K H' b e.1 ∧ H' ra = some (.lst (e.2.2.map V.int)))
        ⟨ys, y14, y15, y16, y17, rfl, u5, el5, hl5, ep5, by rw [part_zero]; exact hb5, jb, hv2⟩ (fun m σ H' hm h => ?_) (fun σ H' h => ?_)
      · clear hl5 ep5 hb5 jb hv1 hv2 el5 u5 ha hx hl3 el3 ep3 u4 hl2 u12 ep el2 u2 npb hl el u1 ys y14 y15 y16 y17
        obtain ⟨ys, y14, y15, y16, y17, rfl, u5, el5, hl5, ep5, hb5, jb, hv2⟩ := h
        have Le := Lf e (List.mem_of_getElem? he)
        have Po := part_ok Lo he m
        have Pf := Po.fit gS nm gd1 gd2
        have Pl := part_len (cfgOf s g1) (cfgOf s g2) wt n L j e m
        have Pn := part_next (cfgOf s g1) (cfgOf s g2) wt L j e hm
        have Pn1 := (part_ok Lo he (m + 1)).fit gS nm gd1 gd2
        have e7 : e.2.2.length = i := Lo.len e (List.mem_of_getElem? he)
        and_intros
        refine ⟨x, gp, b, wp, v1, v2, s, g1, g2, _, e.1, i, wt, rfl, hh6.same u5, gS, same_t u5 egp, (hG1.same s16).same u5, good_up gd1, (hG2.same s16).same u5, good_up gd2, jb, Le.1, Le.2, by omega, same_t (s16.trans u5) hw, gw, fun t b2 H3 u6 ht jp => ?_⟩
        generalize hc : candOf (cfgOf s g1) (cfgOf s g2) wt e (0 + ((m : Nat) : Int)) = c at Pn
        have hc1 : c.1 = ((goC (cfgOf s g1) e.1.1 (0 + ((m : Nat) : Int))).1, (goC (cfgOf s g2) e.1.2 (0 + ((m : Nat) : Int))).1) := by rw [← hc]; rfl
        have hc2 : c.2 = (e.2.1 + (turnC (goC (cfgOf s g1) e.1.1 (0 + ((m : Nat) : Int))).2 wt - turnC (goC (cfgOf s g2) e.1.2 (0 + ((m : Nat) : Int))).2 wt), e.2.2 ++ [0 + ((m : Nat) : Int)]) := by rw [← hc]; rfl
        rw [← hc1] at jp
        generalize turnC (goC (cfgOf s g1) e.1.1 (0 + ((m : Nat) : Int))).2 wt - turnC (goC (cfgOf s g2) e.1.2 (0 + ((m : Nat) : Int))).2 wt = far at hc2 ht ⊢
        clear hc hc1
        refine ⟨t, _, rfl, ht, rfl, _, _, rfl, _, _, rfl, rfl, ?_⟩
        refine ⟨_, rfl, _, _, rfl, rfl, _, rfl, _, _, rfl, rfl, ?_⟩
        refine ⟨_, rfl, _, rfl, sz_1, fun l1 nl1 => ?_⟩
        have w1 := same_upd (o := .lst [.int (0 + ((m : Nat) : Int))]) nl1
        have hra3 := w1 _ _ (u6 _ _ hv2)
        refine ⟨ra, l1, _, _, rfl, rfl, hra3, upd_same, by rw [List.length_map]; exact sz (by show _ + 1 ≤ 1000000; omega), fun r2 nr2 => ?_⟩
        refine ⟨sz_2, fun ct nct => ?_⟩
        have w2 := same_upd (o := .lst (e.2.2.map V.int ++ [.int (0 + ((m : Nat) : Int))])) nr2
        have w3 := same_upd (o := .tup [.int (0 - e.2.1 - far), .ref r2]) nct
        have u7 := (u6.trans w1).trans (w2.trans w3)
        have hct : SqT K _ ct [.int (0 - e.2.1 - far), .ref r2] := sqt (upd_same (H := upd (upd H3 l1 (.lst [.int (0 + ((m : Nat) : Int))])) r2 (.lst (e.2.2.map V.int ++ [.int (0 + ((m : Nat) : Int))]))))
        have hr2 := w3 _ _ upd_same
        have nr2' : H r2 = none := fresh (s16.trans (u5.trans (u6.trans w1))) nr2
        have jp6 := jp.imm (Imm.same (w1.trans (w2.trans w3)))
        generalize upd (upd (upd H3 l1 (.lst [.int (0 + ((m : Nat) : Int))])) r2 (.lst (e.2.2.map V.int ++ [.int (0 + ((m : Nat) : Int))]))) ct (.tup [.int (0 - e.2.1 - far), .ref r2]) = H6 at u7 hct hr2 jp6 ⊢
        have hr2 : H6 r2 = some (.lst ((e.2.2 ++ [0 + ((m : Nat) : Int)]).map V.int)) := by rw [List.map_append]; exact hr2
        have el6 := u7 _ _ el5
        have ep6 := u7 _ _ ep5
        have hl6 := hl5.same u7
        have hb6 := hb5.same u7
        have jb6 := jb.imm (Imm.same u7)
        have hv6 := u7 _ _ hv2
        have u8 := u5.trans u7
        clear el5 ep5 hl5 hb5 jb hv2 u5 u6 u7 w1 w2 w3 jp ht hra3 nl1 nct nr2
        have cd : (kP c.1).depth ≤ 8 := by
          have : c.1 ∈ (part (cfgOf s g1) (cfgOf s g2) wt n L j e (m + 1)).map (·.1) := by rw [Pn]; exact relax_mem _ _
          obtain ⟨d, hd, z⟩ := List.mem_map.mp this
          rw [← z]
          exact kP_depth gd1 (Pn1 d hd).1.ft gd2 (Pn1 d hd).2.ft
        have szb : ys.length < sizeLine := by rw [← Paired.length hb6]; exact szl (by omega)
        have ngc : (0 - e.2.1 - far, e.2.2 ++ [0 + ((m : Nat) : Int)]) = ngV c.2 := by rw [hc2]; exact Prod.ext (by show _ = 0 - (e.2.1 + far); omega) rfl
        -- the stored entry
        have fin : ∀ (H7 : Hp) (tv2 : Addr), Same H6 H7 → H7 tv2 = none → relax (part (cfgOf s g1) (cfgOf s g2) wt n L j e m) c = lvPut (part (cfgOf s g1) (cfgOf s g2) wt n L j e m) c.1 c.2 →
            H7 pb = some (oN P w pb ys) ∧ (upd H7 tv2 (.tup [.int (e.2.1 + far), .ref r2])) pb = some (oN P w pb ys) ∧ KsN K (upd H7 tv2 (.tup [.int (e.2.1 + far), .ref r2])) ys ∧ KyN K (upd H7 tv2 (.tup [.int (e.2.1 + far), .ref r2])) (kP c.1) (.ref b2) ∧
            (Same Hb (upd (upd H7 tv2 (.tup [.int (e.2.1 + far), .ref r2])) pb (oN P w pb (putN ys (kP c.1) b2 (.ref tv2))))) ∧
            (upd (upd H7 tv2 (.tup [.int (e.2.1 + far), .ref r2])) pb (oN P w pb (putN ys (kP c.1) b2 (.ref tv2)))) lv = some (.frz od (oN P w lv xs)) ∧
            LvE K (NN H) (upd (upd H7 tv2 (.tup [.int (e.2.1 + far), .ref r2])) pb (oN P w pb (putN ys (kP c.1) b2 (.ref tv2)))) L xs ∧
            LvE K (NN H) (upd (upd H7 tv2 (.tup [.int (e.2.1 + far), .ref r2])) pb (oN P w pb (putN ys (kP c.1) b2 (.ref tv2)))) (part (cfgOf s g1) (cfgOf s g2) wt n L j e (m + 1)) (putN ys (kP c.1) b2 (.ref tv2)) ∧
            IsPr K (upd (upd H7 tv2 (.tup [.int (e.2.1 + far), .ref r2])) pb (oN P w pb (putN ys (kP c.1) b2 (.ref tv2)))) b e.1 ∧
            (upd (upd H7 tv2 (.tup [.int (e.2.1 + far), .ref r2])) pb (oN P w pb (putN ys (kP c.1) b2 (.ref tv2)))) ra = some (.lst (e.2.2.map V.int)) := by
          intro H7 tv2 x1 nx hr
          have x2 := same_upd (o := .tup [.int (e.2.1 + far), .ref r2]) nx
          have x3 := x1.trans x2
          have ep7 := x3 _ _ ep6
          have ne7 : ∀ zs, (upd H7 tv2 (.tup [.int (e.2.1 + far), .ref r2])) pb ≠ some (.lst zs) := fun zs z => by rw [ep7] at z; cases z
          have im7 : Imm (upd H7 tv2 (.tup [.int (e.2.1 + far), .ref r2])) (upd (upd H7 tv2 (.tup [.int (e.2.1 + far), .ref r2])) pb (oN P w pb (putN ys (kP c.1) b2 (.ref tv2)))) := imm_ext ep7
          have hv : IsVal K (NN H) (upd H7 tv2 (.tup [.int (e.2.1 + far), .ref r2])) c.2 (.ref tv2) := by
            rw [hc2]
            exact ⟨tv2, r2, rfl, sqt upd_same, x3 _ _ hr2, nr2'⟩
          refine ⟨x1 _ _ ep6, ep7, (hb6.same x3).ks gd1 gd2 Pf, (jp6.imm (Imm.same x3)).ky, same_mut (u8.trans x3) npb0, ?_, (hl6.same x3).x SameX.upd im7 ne7, ?_, (jb6.imm (Imm.same x3)).imm im7, ?_⟩
          · rw [upd_ne nlp]; exact x3 _ _ el6
          · rw [Pn, hr]
            exact ((hb6.same x3).x SameX.upd im7 ne7).put ((jp6.imm (Imm.same x3)).imm im7) (hv.x SameX.upd im7 ne7)
          · rw [upd_ne (fun z => by subst z; exact ne7 _ (x3 _ _ hv6))]; exact x3 _ _ hv6
        refine ⟨_, rfl, _, rfl, pb, b2, kP c.1, ys, rfl, rfl, .inl ep6, hb6.ks gd1 gd2 Pf, jp6.ky, cd, ?_⟩
        rcases hb6.at_ c.1 with ⟨q1, q2⟩ | ⟨o, v2', q1, q2, q3⟩
        · rw [q2]
          refine ⟨_, rfl, ?_⟩
          refine iteB rfl (iteB rfl ?_)
          refine ⟨_, rfl, _, rfl, _, _, rfl, rfl, _, rfl, _, _, _, _, rfl, rfl, hct, atI_nat (j := 1) rfl, sz_2, fun tv2 ntv2 => ?_⟩
          obtain ⟨f0, f1, f2, f3, f4, f5, f6, f7, f8, f9⟩ := fin H6 tv2 (Same.refl _) ntv2 (by unfold relax; rw [q1])
          refine ⟨_, rfl, _, rfl, pb, b2, kP c.1, ys, rfl, rfl, f1, f2, f3, cd, szb, ?_⟩
          exact ⟨putN ys (kP c.1) b2 (.ref tv2), _, _, _, _, rfl, f4, f5, f6, upd_same, f7, f8, f9⟩
        · rw [q2]
          refine ⟨_, rfl, ?_⟩
          refine iteB0 rfl ?_
          obtain ⟨tq, rq, rfl, hq1, hq2, _⟩ := q3
          refine ⟨_, rfl, _, rfl, _, rfl, pb, b2, kP c.1, ys, _, rfl, rfl, .inl ep6, hb6.ks gd1 gd2 Pf, jp6.ky, cd, q2, ?_⟩
          refine ⟨_, _, _, _, rfl, rfl, hq1, atI_nat (j := 0) rfl, _, _, rfl, rfl, ?_⟩
          refine ⟨_, rfl, _, rfl, pb, b2, kP c.1, ys, _, rfl, rfl, .inl ep6, hb6.ks gd1 gd2 Pf, jp6.ky, cd, q2, ?_⟩
          refine ⟨_, _, _, _, rfl, rfl, hq1, atI_nat (j := 1) rfl, sz_2, fun oq noq => ?_⟩
          have x1 := same_upd (o := .tup [.int (0 - o.1), .ref rq]) noq
          have dq : Dp K (upd H6 oq (.tup [.int (0 - o.1), .ref rq])) (.ref oq) (toDP (ngV o)) := dp_pr (p := ngV o) (sqt upd_same) (x1 _ _ hq2)
          have dc : Dp K (upd H6 oq (.tup [.int (0 - o.1), .ref rq])) (.ref ct) (toDP (ngV c.2)) := by
            rw [← ngc]
            exact dp_pr (p := (0 - e.2.1 - far, e.2.2 ++ [0 + ((m : Nat) : Int)])) (same_t x1 hct) (x1 _ _ hr2)
          generalize upd H6 oq (.tup [.int (0 - o.1), .ref rq]) = H7 at x1 dq dc ⊢
          refine ⟨ngV c.2, ngV o, dc, dq, _, rfl, ?_⟩
          cases hlt : PySem.W.DatumOrd.lt (ngV c.2) (ngV o) with
          | true =>
            refine iteB rfl ?_
            refine ⟨_, rfl, _, rfl, _, _, rfl, rfl, _, rfl, _, _, _, _, rfl, rfl, same_t x1 hct, atI_nat (j := 1) rfl, sz_2, fun tv2 ntv2 => ?_⟩
            obtain ⟨f0, f1, f2, f3, f4, f5, f6, f7, f8, f9⟩ := fin H7 tv2 x1 ntv2 (by unfold relax; rw [q1]; exact if_pos hlt)
            refine ⟨_, rfl, _, rfl, pb, b2, kP c.1, ys, rfl, rfl, f1, f2, f3, cd, szb, ?_⟩
            exact ⟨putN ys (kP c.1) b2 (.ref tv2), _, _, _, _, rfl, f4, f5, f6, upd_same, f7, f8, f9⟩
          | false =>
            refine iteB0 rfl ?_
            refine ⟨ys, _, _, _, _, rfl, u8.trans x1, x1 _ _ el6, hl6.same x1, x1 _ _ ep6, ?_, jb6.imm (Imm.same x1), x1 _ _ hv6⟩
            rw [Pn, show relax (part (cfgOf s g1) (cfgOf s g2) wt n L j e m) c = part (cfgOf s g1) (cfgOf s g2) wt n L j e m from by unfold relax; rw [q1]; exact if_neg (fun z => Bool.noConfusion (hlt.symm.trans z))]
            exact hb6.same x1
      · obtain ⟨ys, y14, y15, y16, y17, rfl, u5, el5, hl5, ep5, hb5, jb, hv2⟩ := h
        rw [part_end _ _ _ _ _ he] at hb5
        exact ⟨ys, _, _, _, _, _, _, _, rfl, u5, el5, hl5, ep5, hb5⟩
    · obtain ⟨ys, y11, y12, y13, y14, y15, y16, y17, rfl, u5, el5, hl5, ep5, hb5⟩ := h
      refine ⟨el5, _, rfl, pb, ys, _, _, _, _, _, _, _, _, _, _, _, rfl, npb0, same_mut u5 nlv, by rw [upd_ne nlp.symm]; exact ep5, ?_⟩
      have : L.take xs.length = L := List.take_of_length_le (by rw [Paired.length hl5]; exact Nat.le_refl _)
      rw [this, ← Ls] at hb5
      exact hb5.x SameX.upd (imm_unl el5) (fun zs z => by rw [el5] at z; cases z)
  · clear lv0 t8 el4 nlv t1 t2 t3 t4 t5 t6 t7 el1 el2 el3 ev0 j1 j2 j3 j4 kd0 ne1 im1 nkp nra0 ntv0
    clear lv
    obtain ⟨lv, xs, y9, y10, y11, y12, y13, y14, y15, y16, y17, y18, y19, rfl, nlv, u1, el, hl⟩ := h
    have Ll := lvl_len (cfgOf s g1) (cfgOf s g2) wt n k
    have Lo := lvl_ok s g1 g2 wt n k
    have Ln := lvl_nd (cfgOf s g1) (cfgOf s g2) wt n k
    have We := worst_eq (cfgOf s g1) (cfgOf s g2) wt n k
    have Lne : lvl (cfgOf s g1) (cfgOf s g2) wt n k ≠ [] := lvl_ne _ _ _ n1 k
    generalize lvl (cfgOf s g1) (cfgOf s g2) wt n k = L at hl Ll Lo Ln We Lne
    have Lf := Lo.fit gS nm gd1 gd2
    refine ⟨Nat.zero_le _, fun F nF => ?_⟩
    have nF0 := fresh u1 nF
    have nlF : lv ≠ F := fun z => by subst z; rw [el] at nF; cases nF
    have u2 : Same H' (upd H' F (.lst [])) := same_upd nF
    have el2 := u2 _ _ el
    have eF : (upd H' F (.lst [])) F = some (.lst []) := upd_same
    have hl2 : LvE K (fun r => H r = none ∧ r ≠ F) (upd H' F (.lst [])) L xs := Paired.mapP hl fun _ _ z => ⟨z.1, z.2.1.imm (Imm.same u2), let ⟨t0, r0, z1, z2, z3, z4⟩ := z.2.2; ⟨t0, r0, z1, same_t u2 z2, u2 _ _ z3, z4, fun q => by subst q; rw [z3] at nF; cases nF⟩⟩
    have u12 := u1.trans u2
    have hF0 : H F = none := fresh s16 nF0
    generalize upd H' F (.lst []) = H1 at u2 el2 eF hl2 u12 ⊢
    refine ⟨lv, _, el2, True.intro, fun od => ?_⟩
    have u4 : Same Hb (upd H1 lv (.frz od (oN P w lv xs))) := same_mut u12 nlv
    have hl3 := hl2.x (SameX.upd (o := .frz od (oN P w lv xs))) (imm_ext el2) (fun ys z => by rw [el2] at z; cases z)
    have el3 : (upd H1 lv (.frz od (oN P w lv xs))) lv = some (.frz od (oN P w lv xs)) := upd_same
    have eF3 : (upd H1 lv (.frz od (oN P w lv xs))) F = some (.lst []) := by rw [upd_ne nlF.symm]; exact eF
    generalize upd H1 lv (.frz od (oN P w lv xs)) = H2 at u4 hl3 el3 eF3 ⊢
    refine ⟨_, rfl, lv, od, xs, rfl, el3, ?_⟩
    refine for_it walk_keysN (fun j σ H' => ∃ y11 y12 y13 fs, σ = [some (.ref sa), some v1, some v2, some (.ref wp), some (.int ((n : Nat) : Int)), some (.int ((k : Nat) : Int)), some (.ref x), some (.ref gp), some (.ref lv), y9, y10, y11, y12, y13, y14, y15, y16, y17, some (.ref F), y19] ∧ Same Hb H' ∧
      H' lv = some (.frz od (oN P w lv xs)) ∧ LvE K (fun r => H r = none ∧ r ≠ F) H' L xs ∧ H' F = some (.lst fs) ∧ Paired (fun v d => IsVal K (fun r => H r = none ∧ r ≠ F) H' (endV wt d) v) fs (L.take j))
      ⟨y11, y12, y13, [], rfl, u4, el3, hl3, eF3, .nil⟩ (fun j σ H' _ h => ?_) (fun j x0 σ H' H'' hj h y => ?_) (fun σ H' h => ?_)
    · obtain ⟨y11, y12, y13, fs, rfl, u5, el5, _⟩ := h
      exact el5
    · obtain ⟨y11, y12, y13, fs, rfl, u5, el5, hl5, eF5, pf⟩ := h
      obtain ⟨rfl, kk, v, b, hx, rfl⟩ := y
      obtain ⟨e, v', he, rfl, jb, ha, tv, ra, rfl, hv1, hv2, hv3⟩ := hl5.get Ln hx
      have hm := List.mem_of_getElem? he
      refine ⟨_, rfl, _, rfl, lv, b, kP e.1, xs, _, rfl, rfl, .inr ⟨od, el5⟩, hl5.ks gd1 gd2 Lf, jb.ky, kP_depth gd1 (Lf e hm).1.ft gd2 (Lf e hm).2.ft, ha, ?_⟩
      refine ⟨tv, _, rfl, hv1, rfl, _, _, rfl, _, _, rfl, rfl, ?_⟩
      obtain ⟨b1, b2, jt, k1, k2⟩ := jb
      have szs : ∀ (g : G) (r : RSt), OkR s g k r → r.1.length ≤ 10000 ∧ r.2.1.length ≤ 10000 := fun g r o => by
        have l1 := o.iv.l1
        have l2 := o.iv.l2
        have r2 := gS.r2
        have w2 := gS.w2
        exact ⟨by omega, by omega⟩
      refine ⟨_, rfl, _, rfl, _, _, _, _, rfl, rfl, jt, atI_nat (j := 0) rfl, ?_⟩
      refine ⟨b1, e.1.1, rfl, k1, (szs g1 _ (Lf e hm).1).1, (szs g1 _ (Lf e hm).1).2, fun H4 x4 => ?_⟩
      refine ⟨_, rfl, _, _, _, _, rfl, rfl, same_t x4 jt, atI_nat (j := 1) rfl, ?_⟩
      refine ⟨b2, e.1.2, rfl, k2.imm (Imm.same x4), (szs g2 _ (Lf e hm).2).1, (szs g2 _ (Lf e hm).2).2, fun H5 x5 => ?_⟩
      have x45 := x4.trans x5
      refine ⟨_, _, rfl, rfl, _, rfl, _, _, _, _, rfl, rfl, same_t ((s16.trans u5).trans x45) hw, atI_nat (j := 2) rfl, ?_⟩
      have gw3 := gw.2.2
      refine ⟨_, _, rfl, rfl, .inr (by omega), _, _, rfl, rfl, ?_⟩
      have eF6 := x45 _ _ eF5
      refine ⟨_, rfl, .inl ⟨rfl, _, sql eF6⟩, _, rfl, _, _, rfl, rfl, _, rfl, sz_2, fun T nT => ?_⟩
      have x6 := same_upd (o := .tup [.int (0 - (e.2.1 + (((idleN e.1.1 : Nat) : Int) - ((idleN e.1.2 : Nat) : Int)) * wt.c)), .ref ra]) nT
      have eF7 := x6 _ _ eF6
      have x46 := x45.trans x6
      have hlf : fs.length ≤ 1024 := by rw [Paired.length pf, List.length_take]; omega
      refine ⟨_, _, _, rfl, rfl, eF7, szl (by omega), ?_⟩
      have hv : IsVal K (fun r => H r = none ∧ r ≠ F) (upd H5 T (.tup [.int (0 - (e.2.1 + (((idleN e.1.1 : Nat) : Int) - ((idleN e.1.2 : Nat) : Int)) * wt.c)), .ref ra])) (endV wt e) (.ref T) := ⟨T, ra, rfl, sqt upd_same, x46 _ _ hv2, hv3⟩
      have u7 := u5.trans x46
      have el7 := x46 _ _ el5
      have hl7 := hl5.same x46
      have pf7 : Paired (fun v d => IsVal K (fun r => H r = none ∧ r ≠ F) (upd H5 T (.tup [.int (0 - (e.2.1 + (((idleN e.1.1 : Nat) : Int) - ((idleN e.1.2 : Nat) : Int)) * wt.c)), .ref ra])) (endV wt d) v) fs (L.take j) := Paired.mapP pf fun _ _ z => z.same x46
      generalize upd H5 T (.tup [.int (0 - (e.2.1 + (((idleN e.1.1 : Nat) : Int) - ((idleN e.1.2 : Nat) : Int)) * wt.c)), .ref ra]) = H7 at hv u7 el7 hl7 pf7 eF7 ⊢
      have nF8 : ∀ (v : V) (d : Int × List Int), IsVal K (fun r => H r = none ∧ r ≠ F) H7 d v → IsVal K (fun r => H r = none ∧ r ≠ F) (upd H7 F (.lst (fs ++ [.ref T]))) d v := fun v d z => by
        obtain ⟨t0, r0, z1, z2, z3, z4⟩ := z
        exact ⟨t0, r0, z1, (Imm.upd ⟨_, eF7⟩).t z2, by rw [upd_ne z4.2]; exact z3, z4⟩
      refine ⟨_, _, _, fs ++ [.ref T], rfl, same_mut u7 nF0, by rw [upd_ne nlF]; exact el7, ?_, upd_same, ?_⟩
      · exact Paired.mapP hl7 fun _ _ z => ⟨z.1, z.2.1.imm (Imm.upd ⟨_, eF7⟩), nF8 _ _ z.2.2⟩
      · rw [List.take_add_one, he]
        exact Paired.snoc (Paired.mapP pf7 fun _ _ z => nF8 _ _ z) (nF8 _ _ hv)
    · obtain ⟨y11, y12, y13, fs, rfl, u5, el5, hl5, eF5, pf⟩ := h
      refine ⟨el5, ?_⟩
      have : L.take xs.length = L := List.take_of_length_le (by rw [Paired.length hl5]; exact Nat.le_refl _)
      rw [this] at pf
      have eF6 : (upd H' lv (oN P w lv xs)) F = some (.lst fs) := by rw [upd_ne nlF.symm]; exact eF5
      have pf6 : Paired (fun v d => IsVal K (fun r => H r = none ∧ r ≠ F) (upd H' lv (oN P w lv xs)) (endV wt d) v) fs L := Paired.mapP pf fun _ _ z => z.x SameX.upd (imm_unl el5) (fun zs q => by rw [el5] at q; cases q)
      have u6 : Same Hb (upd H' lv (oN P w lv xs)) := same_mut u5 nlv
      generalize upd H' lv (oN P w lv xs) = H6 at eF6 pf6 u6 ⊢
      cases hx : L.map (endV wt) with
      | nil => exact absurd (List.map_eq_nil_iff.mp hx) Lne
      | cons y0 ts =>
        have We := We y0 ts hx
        refine ⟨_, rfl, F, fs, y0, ts, rfl, sql eF6, ?_, fun v i0 hv hi => ?_⟩
        · rw [← hx]
          exact dp_all pf6
        · rw [← hx, List.getElem?_map] at hi
          obtain ⟨d, hd, ed⟩ := Option.map_eq_some_iff.mp hi
          obtain ⟨tq, rq, rfl, hq1, hq2, hq3⟩ := paired_to pf6 hv hd
          rw [ed] at hq1 hq2
          refine ⟨_, rfl, _, _, _, _, rfl, rfl, hq1, atI_nat (j := 0) rfl, _, _, rfl, rfl, ?_⟩
          refine ⟨_, rfl, _, _, _, _, rfl, rfl, hq1, atI_nat (j := 1) rfl, sz_2, fun tr ntr => ?_⟩
          have x9 := same_upd (o := .tup [.int (0 - (PySem.W.minOf y0 ts).1), .ref rq]) ntr
          refine q tr rq _ ((s16.trans u6).trans x9) hq3.1 ?_ ?_
          · unfold worstP
            rw [We]
            exact sqt upd_same
          · unfold worstP
            rw [We]
            exact x9 _ _ hq2
end
end St

namespace St
open PySem PySem.Spec PyProof.Rows L2
abbrev s__law_guessed : Stmt := topS 46
abbrev N__law_guessed : List Str := ["_law_guesser_here", "_law_places", "_law_here", "_law_one", "_law_strides", "_law_k", "_law_some", "_law_found", "_law_place"]
abbrev p__law_guessed : List Str := ["_law_guesser_here", "_law_places"]
theorem sc__law_guessed : FnScope N__law_guessed p__law_guessed (defScope s__law_guessed) := ⟨rfl, rfl, rfl, by decide +kernel, rfl, by decide +kernel, by decide +kernel⟩
def dif (ps : List Int) (i : Nat) : Int := ps.getD (i + 1) 0 - ps.getD i 0
def difs (ps : List Int) : List Int := (List.range (ps.length - 1)).map (dif ps)
def strideG (n p : Int) (s : List Int) : List Int := if (s.length : Nat) < n ∨ s ≠ List.replicate s.length (s.headD 0) ∨ s.headD 0 = 0 then [] else [p + s.headD 0]
def fnd (ps : List Int) (p : Int) : Nat → List Int
  | 0 => []
  | i + 1 => if ps.getD (ps.length - 1 - i - 1) 0 = p ∧ ps.getD (ps.length - 1 - i) 0 ∉ fnd ps p i then fnd ps p i ++ [ps.getD (ps.length - 1 - i) 0] else fnd ps p i
/-- the law's own: looking back -/
def lawG (ps : List Int) (p : Int) : G → List Int
  | .both a b => lawG ps p a ++ (lawG ps p b).filter fun e => decide (e ∉ lawG ps p a)
  | .leaf w ns => if w = "next" then [p + 1, p + 2, p + 3].take (hd0 ns).toNat
    else if w = "stride" then strideG (hd0 ns) p ((difs ps).drop ((difs ps).length - (hd0 ns).toNat))
    else if w = "none" then []
    else (fnd ps p (ps.length - 1)).take (hd0 ns).toNat
  | _ => []
theorem fnd_len (ps : List Int) (p : Int) : ∀ i, (fnd ps p i).length ≤ i
  | 0 => Nat.le_refl _
  | i + 1 => by
    have := fnd_len ps p i
    unfold fnd
    split
    · rw [List.length_append]
      show _ + 1 ≤ _
      omega
    · omega
theorem strideG_len (n p : Int) (s : List Int) : (strideG n p s).length ≤ 1 := by
  unfold strideG
  split
  · exact Nat.zero_le _
  · exact Nat.le_refl _
theorem lawG_len : ∀ {k : Nat} {g : G} {ps : List Int} {p : Int}, good k g = true → (lawG ps p g).length ≤ 3 * 2 ^ k
  | _, .nil, _, _, h => by simp [good] at h
  | _, .b1 _, _, _, h => by simp [good] at h
  | _, .b3 _ _ _, _, _, h => by simp [good] at h
  | 0, .both _ _, _, _, h => by simp [good] at h
  | k + 1, .both a b, ps, p, h => by
    have h' : (good k a && good k b) = true := h
    rw [Bool.and_eq_true] at h'
    have ha := lawG_len (ps := ps) (p := p) h'.1
    have hb := lawG_len (ps := ps) (p := p) h'.2
    show (lawG ps p a ++ (lawG ps p b).filter _).length ≤ _
    have z := List.length_filter_le (fun e => decide (e ∉ lawG ps p a)) (lawG ps p b)
    rw [List.length_append, Nat.pow_succ]
    omega
  | k, .leaf z ns, ps, p, h => by
    have pw := pow_ge k
    by_cases c1 : z = "none"
    · subst c1
      have e : lawG ps p (.leaf "none" ns) = [] := rfl
      rw [e]
      exact Nat.zero_le _
    · obtain ⟨n, rfl, h1, h3⟩ := hd_good h c1
      unfold lawG
      split
      · rw [List.length_take]
        show min _ 3 ≤ _
        omega
      · split
        · have := strideG_len (hd0 [n]) p ((difs ps).drop ((difs ps).length - (hd0 [n]).toNat))
          omega
        · rw [List.length_take]
          have : (hd0 [n]).toNat ≤ 3 := by show n.toNat ≤ 3; omega
          omega
section
variable {P : Program} {w : World} {K : PySem.W.Frag} {mg : Str → Option Value} {base : Heap} {f : Addr} {fd : FuncData}
def spGuessed (K : PySem.W.Frag) (n : Nat) : Sp := fun vs H Q _ => ∃ (v : V) (a : Addr) (g : G) (ps : List Int) (p : Int) (k : Nat), vs = [v, .ref a] ∧ IsG K H g v ∧ good k g = true ∧ k < n ∧ k ≤ 3 ∧ SqL K H a (ps.map V.int) ∧ ps.getLast? = some p ∧ ps.length ≤ 1000 ∧
  ∀ (l : Addr) H', H l = none → Same H H' → H' l = some (.lst ((lawG ps p g).map V.int)) → Q (.ref l) H'
theorem good_both {z : Str} {ns : List Int} {k : Nat} (hk : k ≤ 3) (hg : good k (.leaf z ns) = true) : z ≠ ("both" : Str) := (isG_good k _ hg hk).2
theorem ok__law_guessed (T : Nms mg) (D__law_guessed : Df K mg "_law_guessed" s__law_guessed p__law_guessed f fd) : ∀ n : Nat, FnOk P w K mg base CX0 n f fd p__law_guessed (spGuessed K n)
  | 0 => fn_zero fun vs H Q E ⟨v, a, g, ps, p, k, _, _, _, h, _⟩ => by omega
  | n + 1 => by
    have G__law_guessed := ok__law_guessed T D__law_guessed n
    refine D__law_guessed.F.ok sc__law_guessed (fun vs H Q E h => ?_) (fun cdv A outer s H vs Q E hr h => ?_)
    · obtain ⟨v, a, g, ps, p, k, rfl, _⟩ := h
      rfl
    obtain ⟨v, a, g, ps, p, k, rfl, hG, hg, hk, hk3, hps, hp, hl, q⟩ := h
    refine ⟨_, (pss_cons (ps_set (i := 2) sc__law_guessed.nd rfl (Or.inl rfl) (pe_ix ix_list (pv 1) (pe_un un_neg pe_int) (fun _ _ => rfl)))
  (pss_cons (ps_if (pt_cmpR op_eq (pe_ix ix_tup (pv 0) pe_int (fun _ _ => rfl)) pe_str (nomark _))
    (pss_cons (ps_set (i := 3) sc__law_guessed.nd rfl (Or.inr rfl) (pe_call G__law_guessed (hr.mono (by first | decide | omega)) (by rfl) D__law_guessed.m D__law_guessed.F.kp D__law_guessed.b .nil pass0 (pa_cons (pe_ix ix_tup (pv 0) pe_int (fun _ _ => rfl)) (pa_cons (pv 1) pa_nil))))
    (pss_one (ps_ret (pe_op op_cat (pv 3) (pe_lc (own := [("_law_place", 8)]) (g := gName 8) rfl sc__law_guessed.nd (pi_list (pe_call G__law_guessed (hr.mono (by first | decide | omega)) (by rfl) D__law_guessed.m D__law_guessed.F.kp D__law_guessed.b .nil pass0 (pa_cons (pe_ix ix_tup (pv 0) pe_int (fun _ _ => rfl)) (pa_cons (pv 1) pa_nil)))) (blkOk_by (own := [("_law_place", 8)]) (N := N__law_guessed) (sc := defScope s__law_guessed) (by decide +kernel)) (fun _ _ _ _ _ => pg_name (i := 8) sc__law_guessed.nd rfl (Or.inl rfl)) (fun _ _ _ _ _ => pts_one (pt_cmpR (notIn_seqK (K := K)) (pv 8) (pv 3) (by with_unfolding_all rfl))) (fun _ _ _ _ _ => (pv 8)))))))
    (pss_nil))
  (pss_cons (ps_if (pt_cmpR op_eq (pe_ix ix_tup (pv 0) pe_int (fun _ _ => rfl)) pe_str (nomark _))
    (pss_one (ps_ret (pe_slice sl_list (pe_lst (pa_cons (pe_op op_add (pv 2) pe_int) (pa_cons (pe_op op_add (pv 2) pe_int) (pa_cons (pe_op op_add (pv 2) pe_int) pa_nil)))) po_none (po_some (pe_ix ix_tup (pv 0) pe_int (fun _ _ => rfl))))))
    (pss_nil))
  (pss_cons (ps_if (pt_cmpR op_eq (pe_ix ix_tup (pv 0) pe_int (fun _ _ => rfl)) pe_str (nomark _))
    (pss_cons (ps_setLc (i := 4) (own := [("_law_k", 5)]) (g := gName 5) rfl sc__law_guessed.nd rfl rfl (sw_true rfl rfl rfl (by decide +kernel)) (pi_range2 rfl T.n_range (pa_cons pe_int (pa_cons (pe_callB call_len_seq (by rfl) T.n_len (by decide +kernel) (pa_cons (pv 1) pa_nil)) pa_nil))) (blkOk_by (own := [("_law_k", 5)]) (N := N__law_guessed) (sc := defScope s__law_guessed) (by decide +kernel)) (fun _ _ _ _ _ => pg_name (i := 5) sc__law_guessed.nd rfl (Or.inl rfl)) (fun _ _ _ _ _ => pts_nil) (fun _ _ _ _ _ => (pe_op op_sub (pe_ix (ix_listK (K := K)) (pv 1) (pv 5) (fun _ _ => rfl)) (pe_ix (ix_listK (K := K)) (pv 1) (pe_op op_sub (pv 5) pe_int) (fun _ _ => rfl)))))
    (pss_cons (ps_set (i := 6) sc__law_guessed.nd rfl (Or.inl rfl) (pe_slice sl_list (pv 4) (po_some (pe_callB (call_max2 rfl) (by rfl) T.n_max (by decide +kernel) (pa_cons pe_int (pa_cons (pe_op op_sub (pe_callB call_len_seq (by rfl) T.n_len (by decide +kernel) (pa_cons (pv 4) pa_nil)) (pe_ix ix_tup (pv 0) pe_int (fun _ _ => rfl))) pa_nil)))) po_none))
    (pss_cons (ps_if (PW.pt (pw_or (pt_cmpR op_lt (pe_callB call_len_seq (by rfl) T.n_len (by decide +kernel) (pa_cons (pv 6) pa_nil)) (pe_ix ix_tup (pv 0) pe_int (fun _ _ => rfl)) (nomark _)) (pw_or (pt_cmpR (op_neD hr.units) (pv 6) (pe_op op_rep (pe_lst (pa_cons (pe_ix ix_list (pv 6) pe_int (fun _ _ => rfl)) pa_nil)) (pe_callB call_len_seq (by rfl) T.n_len (by decide +kernel) (pa_cons (pv 6) pa_nil))) (nomark _)) (pw_or1 (pt_cmpR op_eq (pe_ix ix_list (pv 6) pe_int (fun _ _ => rfl)) pe_int (nomark _))))))
      (pss_one (ps_ret (pe_lst pa_nil)))
      (pss_nil))
    (pss_one (ps_ret (pe_lst (pa_cons (pe_op op_add (pv 2) (pe_ix ix_list (pv 6) pe_int (fun _ _ => rfl))) pa_nil)))))))
    (pss_nil))
  (pss_cons (ps_if (pt_cmpR op_eq (pe_ix ix_tup (pv 0) pe_int (fun _ _ => rfl)) pe_str (nomark _))
    (pss_one (ps_ret (pe_lst pa_nil)))
    (pss_nil))
  (pss_cons (ps_set (i := 7) sc__law_guessed.nd rfl (Or.inl rfl) (pe_lst pa_nil))
  (pss_cons (ps_for PassesOwn.never rfl (pi_range3 rfl T.n_range (pa_cons (pe_op op_sub (pe_callB call_len_seq (by rfl) T.n_len (by decide +kernel) (pa_cons (pv 1) pa_nil)) pe_int) (pa_cons pe_int (pa_cons (pe_un un_neg pe_int) pa_nil)))) (pg_name (i := 5) sc__law_guessed.nd rfl (Or.inl rfl))
    (pss_one (ps_if (PW.pt (pw_and (pt_cmpR op_eq (pe_ix ix_list (pv 1) (pe_op op_sub (pv 5) pe_int) (fun _ _ => rfl)) (pv 2) (nomark _)) (pw_and1 (pt_cmpR op_notIn_seq (pe_ix ix_list (pv 1) (pv 5) (fun _ _ => rfl)) (pv 7) (by with_unfolding_all rfl)))))
      (pss_one (ps_expr (pe_bm PySem.F.plainAttrs_list PySem.F.slot_list_append PySem.F.type_list_append mt_append (pv 7) (pa_cons (pe_ix ix_list (pv 1) (pv 5) (fun _ _ => rfl)) pa_nil))))
      (pss_nil))))
  (pss_one (ps_ret (pe_slice sl_list (pv 7) po_none (po_some (pe_ix ix_tup (pv 0) pe_int (fun _ _ => rfl))))))))))))), ?_⟩
    and_intros
    refine ⟨_, _, _, _, rfl, rfl, hps, at_last hp, ?_⟩
    and_intros
    cases g with
    | leaf z ns =>
      obtain ⟨b, rfl, hb⟩ := hG
      have hz := good_both hk3 hg
      and_intros
      refine iteB0 (decide_eq_false fun x => hz (V.str.inj x)) ?_
      and_intros
      by_cases c1 : z = "next"
      · refine iteB (decide_eq_true (congrArg V.str c1)) ?_
        obtain ⟨m, rfl, m1, m3⟩ := hd_good hg (fun e => by rw [c1] at e; exact absurd e (by decide))
        and_intros
        intro l1 n1
        have sl1 : SqL K (upd H l1 (.lst [.int (p + 1), .int (p + 2), .int (p + 3)])) l1 [.int (p + 1), .int (p + 2), .int (p + 3)] := sql upd_same
        have hb1 := same_t (same_upd (o := .lst [.int (p + 1), .int (p + 2), .int (p + 3)]) n1) hb
        and_intros
        intro l2 n2
        refine q l2 _ ((same_upd n1).free n2) (by ac_rfl) ?_
        rw [upd_same, cut_to (by omega)]
        unfold lawG
        rw [if_pos c1, List.map_take]
        rfl
      · refine iteB0 (decide_eq_false fun x => c1 (V.str.inj x)) ?_
        and_intros
        by_cases c2 : z = "stride"
        · refine iteB (decide_eq_true (congrArg V.str c2)) ?_
          obtain ⟨m, rfl, m1, m3⟩ := hd_good hg (fun e => by rw [c2] at e; exact absurd e (by decide))
          have lnp : 0 < ps.length := by
            refine List.length_pos_iff.mpr ?_
            rintro rfl
            cases hp
          and_intros
          refine ⟨_, _, rfl, ⟨by decide, by decide, by rw [List.length_map]; omega, by rw [List.length_map]; omega⟩, ?_⟩
          rw [show (((List.map V.int ps).length : Nat) - (1 : Int)).toNat = ps.length - 1 by rw [List.length_map]; omega]
          intro D nD
          refine lc_range (lo := 1) (n := ps.length - 1) (fun i H' => Same H H' ∧ H' D = some (.lst (((List.range i).map (dif ps)).map V.int))) ⟨same_upd nD, upd_same⟩ (fun i H' hi h => ?_) (fun H' h => ?_)
          · and_intros
            refine ⟨_, _, _, _, rfl, rfl, same_l h.1 hps, at_ps (i := i + 1) (by omega) (by omega), ?_⟩
            and_intros
            refine ⟨_, _, _, _, rfl, rfl, same_l h.1 hps, at_ps (i := i) (by omega) (by omega), ?_⟩
            and_intros
            refine ⟨_, h.2, by simp only [List.length_map, List.length_range]; exact szl (by omega), same_mut h.1 nD, ?_⟩
            rw [upd_same, List.range_succ, List.map_append, List.map_append]
            rfl
          · have hD : H' D = some (.lst ((difs ps).map V.int)) := h.2
            have hb1 := same_t h.1 hb
            have hl1 : (difs ps).length = ps.length - 1 := by unfold difs; rw [List.length_map, List.length_range]
            and_intros
            have mx : (if (((List.map V.int (difs ps)).length : Nat) : Int) - m > 0 then (((List.map V.int (difs ps)).length : Nat) : Int) - m else 0) = (((difs ps).length - m.toNat : Nat) : Int) := by
              rw [List.length_map]
              split <;> omega
            refine ⟨_, _, rfl, (((difs ps).length - m.toNat : Nat) : Int), congrArg V.int mx, ?_⟩
            refine ⟨_, _, rfl, sql hD, fun L nL => ?_⟩
            rw [cut_from (by omega), Int.toNat_natCast, ← List.map_drop]
            generalize hs : (difs ps).drop ((difs ps).length - m.toNat) = sm
            have lsm : sm.length ≤ 3 := by rw [← hs, List.length_drop]; omega
            have hL : (upd H' L (.lst (sm.map V.int))) L = some (.lst (sm.map V.int)) := upd_same
            have s2 : Same H (upd H' L (.lst (sm.map V.int))) := h.1.trans (same_upd nL)
            have hb2 := same_t (same_upd (o := .lst (sm.map V.int)) nL) hb1
            have qq : ∀ (l : Addr) H', H l = none → Same H H' → H' l = some (.lst ((strideG m p sm).map V.int)) → Q (.ref l) H' := by
              have e : lawG ps p (.leaf z [m]) = strideG m p sm := by
                unfold lawG
                rw [if_neg c1, if_pos c2, ← hs]
                rfl
              rw [← e]
              exact q
            generalize upd H' L (.lst (sm.map V.int)) = H2 at hL s2 hb2 ⊢
            clear hb1 hs q
            and_intros
            have none_ : strideG m p sm = [] → ∀ H', Same H2 H' → ∀ l, H' l = none → Q (.ref l) (upd H' l (.lst [])) := fun e H' s3 l nl => qq l _ ((s2.trans s3).free nl) ((s2.trans s3).trans (same_upd nl)) (by rw [upd_same, e]; rfl)
            by_cases cl : ((sm.length : Nat) : Int) < m
            · refine iteB (decide_eq_true (by rw [List.length_map]; exact cl)) ?_
              refine iteB rfl ?_
              and_intros
              exact none_ (if_pos (.inl cl)) _ (Same.refl _)
            · refine iteB0 (decide_eq_false (by rw [List.length_map]; exact cl)) ?_
              have smp : 0 < sm.length := by omega
              have at0 : atI (sm.map V.int) 0 = some (.int (sm.headD 0)) := by
                cases sm with
                | nil => exact absurd smp (Nat.lt_irrefl _)
                | cons a r => exact atI_nat (j := 0) rfl
              and_intros
              refine ⟨_, _, _, _, rfl, rfl, sql hL, at0, ?_⟩
              and_intros
              intro l1 n1
              have hL1 : (upd H2 l1 (.lst [.int (sm.headD 0)])) L = some (.lst (sm.map V.int)) := same_upd n1 _ _ hL
              and_intros
              refine ⟨_, _, _, rfl, rfl, upd_same, by rw [List.length_map]; omega, by rw [List.length_map]; omega, by rw [List.length_map, Int.toNat_natCast]; exact sz (by show 1 * _ ≤ _; omega), fun l2 n2 => ?_⟩
              rw [List.length_map, Int.toNat_natCast, flat_rep]
              refine ⟨.list (sm.map .int), .list ((List.replicate sm.length (sm.headD 0)).map .int), dp_ints (sql (same_upd n2 _ _ hL1)), dp_ints (sql upd_same), lay_ints _, lay_ints _, ?_⟩
              rw [eqv_ints]
              have s3 : Same H2 (upd (upd H2 l1 (.lst [.int (sm.headD 0)])) l2 (.lst ((List.replicate sm.length (sm.headD 0)).map V.int))) := (same_upd n1).trans (same_upd n2)
              generalize upd (upd H2 l1 (.lst [.int (sm.headD 0)])) l2 (.lst ((List.replicate sm.length (sm.headD 0)).map V.int)) = H3 at s3 ⊢
              have hL3 := s3 _ _ hL
              by_cases cr : sm = List.replicate sm.length (sm.headD 0)
              · rw [decide_eq_true cr]
                refine ⟨_, rfl, iteB0 (b := !true) rfl ?_⟩
                and_intros
                refine ⟨_, _, _, _, rfl, rfl, sql hL3, at0, ?_⟩
                and_intros
                by_cases c0 : sm.headD 0 = 0
                · refine iteB (decide_eq_true (congrArg V.int c0)) ?_
                  and_intros
                  exact none_ (if_pos (.inr (.inr c0))) _ s3
                · refine iteB0 (decide_eq_false fun z => c0 (V.int.inj z)) ?_
                  and_intros
                  refine ⟨_, _, _, _, rfl, rfl, sql hL3, at0, ?_⟩
                  and_intros
                  intro l nl
                  refine qq l _ ((s2.trans s3).free nl) ((s2.trans s3).trans (same_upd nl)) ?_
                  have e : strideG m p sm = [p + sm.headD 0] := if_neg (fun z => z.elim cl fun z => z.elim (fun z => z cr) c0)
                  rw [upd_same, e]
                  rfl
              · rw [decide_eq_false cr]
                refine ⟨_, rfl, iteB (b := !false) rfl ?_⟩
                refine iteB rfl ?_
                and_intros
                exact none_ (if_pos (.inr (.inl cr))) _ s3
        · refine iteB0 (decide_eq_false fun x => c2 (V.str.inj x)) ?_
          and_intros
          by_cases c3 : z = "none"
          · refine iteB (decide_eq_true (congrArg V.str c3)) ?_
            and_intros
            intro l nl
            refine q l _ nl (same_upd nl) ?_
            rw [upd_same]
            unfold lawG
            rw [if_neg c1, if_neg c2, if_pos c3]
            rfl
          · refine iteB0 (decide_eq_false fun x => c3 (V.str.inj x)) ?_
            and_intros
            intro D nD
            have hps1 := same_l (same_upd (o := .lst []) nD) hps
            and_intros
            refine ⟨_, _, _, _, rfl, RgC.neg (by rw [List.length_map]; omega) (by rw [List.length_map]; omega) (by decide) (by decide), ?_⟩
            refine for_rangeC (fun i σ H' => ∃ y3 y4 y5 y6 y8, σ = [some (.ref b), some (.ref a), some (.int p), y3, y4, y5, y6, some (.ref D), y8] ∧ Same H H' ∧ H' D = some (.lst ((fnd ps p i).map V.int)))
              ⟨none, none, none, none, none, rfl, same_upd nD, upd_same⟩ (fun i σ H' hi h => ?_) (fun σ H' h => ?_)
            · rw [List.length_map] at hi
              have hi' : i < ps.length - 1 := by omega
              obtain ⟨y3, y4, y5, y6, y8, rfl, s1, eD⟩ := h
              have hps2 := same_l s1 hps
              have lf := fnd_len ps p i
              have ek : (((List.map V.int ps).length : Nat) : Int) - 1 + (i : Nat) * -1 = ((ps.length - 1 - i : Nat) : Int) := by rw [List.length_map]; omega
              rw [ek]
              and_intros
              refine ⟨_, _, _, _, rfl, rfl, hps2, at_ps (i := ps.length - 1 - i - 1) (by omega) (by omega), ?_⟩
              and_intros
              have ef : fnd ps p (i + 1) = if ps.getD (ps.length - 1 - i - 1) 0 = p ∧ ps.getD (ps.length - 1 - i) 0 ∉ fnd ps p i then fnd ps p i ++ [ps.getD (ps.length - 1 - i) 0] else fnd ps p i := rfl
              by_cases cp : ps.getD (ps.length - 1 - i - 1) 0 = p
              · refine iteB (decide_eq_true (congrArg V.int cp)) ?_
                and_intros
                refine ⟨_, _, _, _, rfl, rfl, hps2, at_ps (i := ps.length - 1 - i) rfl (by omega), ?_⟩
                and_intros
                refine ⟨flat_ints _, ?_⟩
                rw [inV_ints]
                by_cases cm : ps.getD (ps.length - 1 - i) 0 ∈ fnd ps p i
                · rw [decide_eq_true cm]
                  refine ⟨_, rfl, iteB0 (b := !true) rfl ?_⟩
                  rw [if_neg (fun z => z.2 cm)] at ef
                  rw [ef]
                  exact ⟨_, _, _, _, _, rfl, s1, eD⟩
                · rw [decide_eq_false cm]
                  refine ⟨_, rfl, iteB (b := !false) rfl ?_⟩
                  rw [if_pos ⟨cp, cm⟩] at ef
                  and_intros
                  refine ⟨.inl ⟨rfl, _, sql eD⟩, ?_⟩
                  and_intros
                  refine ⟨_, _, _, _, rfl, rfl, hps2, at_ps (i := ps.length - 1 - i) rfl (by omega), ?_⟩
                  and_intros
                  refine ⟨_, _, _, rfl, rfl, eD, by rw [List.length_map]; exact szl (by omega), ?_⟩
                  rw [ef, List.map_append]
                  exact ⟨_, _, _, _, _, rfl, same_mut s1 nD, upd_same⟩
              · refine iteB0 (decide_eq_false fun z => cp (V.int.inj z)) ?_
                rw [if_neg (fun z => cp z.1)] at ef
                rw [ef]
                exact ⟨_, _, _, _, _, rfl, s1, eD⟩
            · obtain ⟨y3, y4, y5, y6, y8, rfl, s1, eD⟩ := h
              have en : ((((List.map V.int ps).length : Nat) : Int) - 1 - 0).toNat = ps.length - 1 := by rw [List.length_map]; omega
              rw [en] at eD
              obtain ⟨m, rfl, m1, m3⟩ := hd_good hg c3
              have hb1 := same_t s1 hb
              and_intros
              intro l nl
              refine q l _ (s1.free nl) (s1.trans (same_upd nl)) ?_
              rw [upd_same, cut_to (by omega)]
              unfold lawG
              rw [if_neg c1, if_neg c2, if_neg c3, List.map_take]
              rfl
    | both a b =>
      cases k with
      | zero => simp [good] at hg
      | succ k =>
      have h' : (good k a && good k b) = true := hg
      rw [Bool.and_eq_true] at h'
      obtain ⟨pa, x, y, rfl, hp', ha, hb⟩ := hG
      and_intros
      refine ⟨x, _, a, ps, p, k, rfl, ha, h'.1, by omega, by omega, hps, hp, hl, fun l1 H1 n1 s1 e1 => ?_⟩
      have hp1 := same_t s1 hp'
      and_intros
      refine ⟨y, _, b, ps, p, k, rfl, hb.same s1, h'.2, by omega, by omega, same_l s1 hps, hp, hl, fun l2 H2 n2 s2 e2 => ?_⟩
      and_intros
      refine ⟨⟨_, sql e2⟩, fun L nL => ?_⟩
      have la := lawG_len (p := p) (ps := ps) h'.1
      have lb := lawG_len (p := p) (ps := ps) h'.2
      have q' : ∀ (l : Addr) H', H l = none → Same H H' → H' l = some (.lst ((lawG ps p a ++ (lawG ps p b).filter fun e => decide (e ∉ lawG ps p a)).map V.int)) → Q (.ref l) H' := q
      generalize lawG ps p a = mine at e1 la q'
      generalize lawG ps p b = theirs at e2 lb q'
      have pw : 2 ^ k ≤ 4 := Nat.le_trans (Nat.pow_le_pow_right (by decide) (show k ≤ 2 by omega)) (by decide)
      refine lc_list (xs := theirs.map V.int) (fun i H' => Same H2 H' ∧ H' L = some (.lst (((theirs.take i).filter fun e => decide (e ∉ mine)).map V.int))) ⟨same_upd nL, upd_same⟩ (fun i H' _ h => sql (h.1 _ _ e2)) (fun i y H' hi h => ?_) (fun H' h => ?_)
      · obtain ⟨m, rfl, em, tk⟩ := at_ints hi
        and_intros
        refine ⟨l1, mine.map V.int, rfl, .inl (sql (h.1 _ _ (s2 _ _ e1))), rfl, flat_ints _, ?_⟩
        rw [inV_ints]
        by_cases c : m ∈ mine
        · rw [decide_eq_true c]
          refine ⟨_, rfl, iteB0 (b := !true) rfl ?_⟩
          refine ⟨h.1, ?_⟩
          rw [h.2, tk, filter_snoc, if_neg (by simp [c]), List.append_nil]
        · rw [decide_eq_false c]
          refine ⟨_, rfl, iteB (b := !false) rfl ?_⟩
          have z := List.length_filter_le (fun e => decide (e ∉ mine)) (theirs.take i)
          rw [List.length_take] at z
          refine ⟨_, rfl, _, h.2, by rw [List.length_map]; exact szl (by omega), same_mut h.1 nL, ?_⟩
          rw [upd_same, tk, filter_snoc, if_pos (by simp [c]), List.map_append]
          rfl
      · have tk : theirs.take (theirs.map V.int).length = theirs := by rw [List.length_map]; exact List.take_length
        rw [tk] at h
        have z := List.length_filter_le (fun e => decide (e ∉ mine)) theirs
        refine ⟨_, _, mine.map V.int, _, rfl, rfl, h.1 _ _ (s2 _ _ e1), h.2, by simp only [List.length_map]; exact sz (by omega), fun l4 n4 => ?_⟩
        refine q' l4 _ ((s1.trans s2).free (h.1.free n4)) (((s1.trans s2).trans h.1).trans (same_upd n4)) ?_
        rw [upd_same, List.map_append]
    | _ => simp [good] at hg
end
end St

namespace St
open PySem PySem.Spec PyProof.Rows L2
/-! ### the stepping guesser guesses as the law does that looks back -/
theorem difs_snoc (init : List Int) (x p : Int) : difs (init ++ [x] ++ [p]) = difs (init ++ [x]) ++ [p - x] := by
  have len1 : (init ++ [x] ++ [p]).length - 1 = init.length + 1 := by simp
  have len2 : (init ++ [x]).length - 1 = init.length := by simp
  unfold difs
  rw [len1, len2, List.range_succ, List.map_append]
  congr 1
  · refine List.map_congr_left fun i hi => ?_
    have hi := List.mem_range.mp hi
    unfold dif
    rw [List.getD_eq_getElem?_getD, List.getD_eq_getElem?_getD, List.getD_eq_getElem?_getD, List.getD_eq_getElem?_getD]
    rw [List.getElem?_append_left (l₁ := init ++ [x]) (by simp; omega), List.getElem?_append_left (l₁ := init ++ [x]) (i := i) (by simp; omega)]
  · unfold dif
    simp
def lead : List Int → Int
  | [] => 0
  | [_] => 1
  | x :: y :: r => if x = y then lead (y :: r) + 1 else 1
theorem lead_pos : ∀ (x : Int) (r : List Int), 1 ≤ lead (x :: r)
  | _, [] => Int.le_refl _
  | x, y :: r => by
    have := lead_pos y r
    unfold lead
    split <;> omega
theorem lead_iff : ∀ (r : List Int) (x : Int) (n : Nat), 1 ≤ n → (((n : Int) ≤ lead (x :: r)) ↔ (x :: r).take n = List.replicate n x)
  | [], x, n, hn => by
    obtain ⟨k, rfl⟩ : ∃ k, n = k + 1 := ⟨n - 1, by omega⟩
    rw [List.take_succ_cons, List.take_nil, List.replicate_succ]
    show ((k + 1 : Nat) : Int) ≤ 1 ↔ _
    cases k with
    | zero => simp
    | succ k => simp [List.replicate_succ]; omega
  | y :: r, x, n, hn => by
    obtain ⟨k, rfl⟩ : ∃ k, n = k + 1 := ⟨n - 1, by omega⟩
    rw [List.take_succ_cons, List.replicate_succ, List.cons.injEq]
    cases k with
    | zero =>
      have := lead_pos x (y :: r)
      simp
      exact this
    | succ k =>
      have ih := lead_iff r y (k + 1) (by omega)
      unfold lead
      by_cases c : x = y
      · subst c
        rw [if_pos rfl, ← ih]
        constructor
        · intro h; exact ⟨rfl, by omega⟩
        · intro h; have := h.2; omega
      · rw [if_neg c]
        constructor
        · intro h; omega
        · intro h
          have z := h.2
          rw [List.take_succ_cons, List.replicate_succ, List.cons.injEq] at z
          exact absurd z.1.symm c
theorem stride_eq (n p : Int) (h1 : 1 ≤ n) (x : Int) (d : List Int) : strideG n p ((d ++ [x]).drop ((d ++ [x]).length - n.toNat)) = if x ≠ 0 ∧ n ≤ lead (x :: d.reverse) then [p + x] else [] := by
  obtain ⟨m, rfl⟩ : ∃ m : Nat, n = (m : Int) := ⟨n.toNat, by omega⟩
  have h1' : 1 ≤ m := by omega
  rw [Int.toNat_natCast]
  have e : (d ++ [x]).drop ((d ++ [x]).length - m) = ((x :: d.reverse).take m).reverse := by
    have : x :: d.reverse = (d ++ [x]).reverse := by simp
    rw [this, List.take_reverse, List.reverse_reverse]
  rw [e]
  have key := lead_iff d.reverse x m h1'
  by_cases c : (m : Int) ≤ lead (x :: d.reverse)
  · rw [key.mp c, List.reverse_replicate]
    have hd : (List.replicate m x).headD 0 = x := by
      obtain ⟨k, rfl⟩ : ∃ k, m = k + 1 := ⟨m - 1, by omega⟩
      rfl
    unfold strideG
    rw [hd, List.length_replicate]
    by_cases c0 : x = 0
    · rw [if_pos (.inr (.inr c0)), if_neg (fun z => z.1 c0)]
    · rw [if_neg (by rintro (z | z | z); · omega
                     · exact z rfl
                     · exact c0 z), if_pos ⟨c0, c⟩]
  · rw [if_neg (fun z => c z.2)]
    generalize hs : ((x :: d.reverse).take m).reverse = s
    refine if_pos ?_
    by_cases cl : ((s.length : Nat) : Int) < m
    · exact .inl cl
    · refine .inr (.inl fun z => c (key.mpr ?_))
      have ls : s.length = m := by
        have : s.length ≤ m := by rw [← hs, List.length_reverse, List.length_take]; exact Nat.min_le_left _ _
        omega
      rw [ls] at z
      generalize s.headD 0 = y at z
      rw [z] at hs
      have hs' : (x :: d.reverse).take m = List.replicate m y := by rw [← List.reverse_reverse ((x :: d.reverse).take m), hs, List.reverse_replicate]
      obtain ⟨k, rfl⟩ : ∃ k, m = k + 1 := ⟨m - 1, by omega⟩
      have hy : x = y := by
        rw [List.take_succ_cons, List.replicate_succ, List.cons.injEq] at hs'
        exact hs'.1
      rw [hs', hy]
theorem stG_str (n : Int) : ∀ (r : List Int) (x : Int), stG (.leaf "stride" [n]) ((r.reverse) ++ [x]) = .str (some x) ((difs (r.reverse ++ [x])).reverse.headD 0) (lead (difs (r.reverse ++ [x])).reverse)
  | [], x => by
    rw [stG_snoc]
    rfl
  | y :: r, x => by
    have ih := stG_str n r y
    rw [List.reverse_cons, stG_snoc, ih, difs_snoc, List.reverse_append]
    generalize (difs (r.reverse ++ [y])).reverse = d
    show (strStep n (some y) (d.headD 0) (lead d) x).1 = .str (some x) (x - y) (lead ((x - y) :: d))
    unfold strStep
    show Sg.str (some x) (x - y) (if x - y = d.headD 0 then lead d + 1 else 1) = _
    congr 1
    cases d with
    | nil =>
      show (if x - y = 0 then (0 : Int) + 1 else 1) = 1
      split <;> rfl
    | cons z d => rfl
theorem step_str (n : Int) (h1 : 1 ≤ n) (init : List Int) (p : Int) : (stepG (.leaf "stride" [n]) (stG (.leaf "stride" [n]) init) p).2 = lawG (init ++ [p]) p (.leaf "stride" [n]) := by
  show _ = strideG n p ((difs (init ++ [p])).drop ((difs (init ++ [p])).length - n.toNat))
  obtain ⟨r, rfl⟩ : ∃ r : List Int, init = r.reverse := ⟨init.reverse, by rw [List.reverse_reverse]⟩
  cases r with
  | nil =>
    show ([] : List Int) = strideG n p (([] : List Int).drop _)
    rw [List.drop_nil]
    exact (if_pos (.inl (by show (0 : Int) < n; omega))).symm
  | cons y r =>
    rw [List.reverse_cons, stG_str, difs_snoc]
    generalize difs (r.reverse ++ [y]) = d
    rw [stride_eq n p h1]
    show (strStep n (some y) (d.reverse.headD 0) (lead d.reverse) p).2 = _
    have e : (if p - y = d.reverse.headD 0 then lead d.reverse + 1 else 1) = lead ((p - y) :: d.reverse) := by
      generalize d.reverse = d
      cases d with
      | nil =>
        show (if p - y = 0 then (0 : Int) + 1 else 1) = 1
        split <;> rfl
      | cons z d => rfl
    show (if p - y ≠ 0 ∧ n ≤ (if p - y = d.reverse.headD 0 then lead d.reverse + 1 else 1) then [p + (p - y)] else []) = _
    rw [e]
/-! ### pairs -/
def ded : List Int → List Int
  | [] => []
  | a :: r => a :: (ded r).filter fun e => decide (e ≠ a)
def dd (acc : List Int) (l : List Int) : List Int := l.foldl (fun acc a => if a ∈ acc then acc else acc ++ [a]) acc
theorem dd_ded : ∀ (l acc : List Int), dd acc l = acc ++ (ded l).filter fun e => decide (e ∉ acc)
  | [], acc => by simp [dd, ded]
  | a :: r, acc => by
    show dd (if a ∈ acc then acc else acc ++ [a]) r = _
    unfold ded
    rw [List.filter_cons]
    by_cases c : a ∈ acc
    · rw [if_pos c, if_neg (by simp [c]), dd_ded r acc, List.filter_filter]
      congr 1
      refine List.filter_congr fun e _ => ?_
      by_cases d : e = a
      · subst d; simp [c]
      · simp [d]
    · rw [if_neg c, if_pos (by simp [c]), dd_ded r (acc ++ [a]), List.filter_filter, List.append_assoc]
      congr 1
      show _ = a :: _
      rw [List.singleton_append]
      congr 1
      refine List.filter_congr fun e _ => ?_
      by_cases d : e = a
      · subst d; simp
      · simp [d]
theorem ded_nodup : ∀ l : List Int, (ded l).Nodup
  | [] => List.nodup_nil
  | a :: r => by
    unfold ded
    rw [List.nodup_cons]
    refine ⟨fun h => ?_, (ded_nodup r).filter _⟩
    have := (List.mem_filter.mp h).2
    simp at this
/-- what came behind y, the latest first -/
def sc_ (ps : List Int) (y : Int) : Nat → List Int
  | 0 => []
  | i + 1 => sc_ ps y i ++ if ps.getD (ps.length - 1 - i - 1) 0 = y then [ps.getD (ps.length - 1 - i) 0] else []
theorem fnd_dd (ps : List Int) (y : Int) : ∀ i, fnd ps y i = dd [] (sc_ ps y i)
  | 0 => rfl
  | i + 1 => by
    unfold fnd sc_
    rw [fnd_dd ps y i]
    unfold dd
    rw [List.foldl_append]
    generalize List.foldl _ _ (sc_ ps y i) = acc
    by_cases c : ps.getD (ps.length - 1 - i - 1) 0 = y
    · rw [if_pos c]
      show _ = if _ ∈ acc then acc else acc ++ [_]
      by_cases d : ps.getD (ps.length - 1 - i) 0 ∈ acc
      · rw [if_pos d, if_neg (fun z => z.2 d)]
      · rw [if_neg d, if_pos ⟨c, d⟩]
    · rw [if_neg c, if_neg (fun z => c z.1)]
      rfl
theorem sc_snoc (init : List Int) (x p y : Int) : ∀ i, i ≤ init.length → sc_ (init ++ [x] ++ [p]) y (i + 1) = (if x = y then [p] else []) ++ sc_ (init ++ [x]) y i
  | 0, _ => by
    have e1 : (init ++ [x] ++ [p]).getD ((init ++ [x] ++ [p]).length - 1 - 0 - 1) 0 = x := by
      have : (init ++ [x] ++ [p]).length - 1 - 0 - 1 = init.length := by simp
      rw [this, List.getD_eq_getElem?_getD, List.getElem?_append_left (by simp), List.getElem?_append_right (Nat.le_refl _)]
      simp
    have e2 : (init ++ [x] ++ [p]).getD ((init ++ [x] ++ [p]).length - 1 - 0) 0 = p := by
      have : (init ++ [x] ++ [p]).length - 1 - 0 = (init ++ [x]).length := by simp
      rw [this, List.getD_eq_getElem?_getD, List.getElem?_append_right (Nat.le_refl _)]
      simp
    show [] ++ (if _ = y then [_] else []) = _ ++ []
    rw [e1, e2, List.append_nil, List.nil_append]
  | i + 1, hi => by
    have ih := sc_snoc init x p y i (by omega)
    have e : ∀ j, j ≤ init.length → (init ++ [x] ++ [p]).getD j 0 = (init ++ [x]).getD j 0 := fun j hj => by
      rw [List.getD_eq_getElem?_getD, List.getD_eq_getElem?_getD, List.getElem?_append_left (by simp; omega)]
    have l1 : (init ++ [x] ++ [p]).length - 1 - (i + 1) = (init ++ [x]).length - 1 - i := by
      simp only [List.length_append, List.length_cons, List.length_nil]
      omega
    rw [sc_, ih, List.append_assoc]
    congr 1
    rw [l1, e _ (by simp; omega), e _ (by simp)]
    rfl
/-- all that came behind y -/
def fol (ps : List Int) (y : Int) : List Int := fnd ps y (ps.length - 1)
theorem fol_ded (ps : List Int) (y : Int) : fol ps y = ded (sc_ ps y (ps.length - 1)) := by
  unfold fol
  rw [fnd_dd, dd_ded]
  simp
theorem fol_nodup (ps : List Int) (y : Int) : (fol ps y).Nodup := by
  rw [fol_ded]
  exact ded_nodup _
theorem fol_snoc (init : List Int) (x p y : Int) : fol (init ++ [x] ++ [p]) y = if x = y then p :: (fol (init ++ [x]) y).filter (fun e => decide (e ≠ p)) else fol (init ++ [x]) y := by
  rw [fol_ded, fol_ded]
  have l1 : (init ++ [x] ++ [p]).length - 1 = init.length + 1 := by simp
  have l2 : (init ++ [x]).length - 1 = init.length := by simp
  rw [l1, l2, sc_snoc init x p y _ (Nat.le_refl _)]
  by_cases c : x = y
  · rw [if_pos c, if_pos c]
    rfl
  · rw [if_neg c, if_neg c]
    rfl
theorem take_fil {p : Int} : ∀ {l : List Int} {m : Nat}, l.Nodup → (((l.take (m + 1)).filter fun e => decide (e ≠ p)).take m) = (l.filter fun e => decide (e ≠ p)).take m
  | [], m, _ => by simp
  | a :: r, m, h => by
    rw [List.nodup_cons] at h
    rw [List.take_succ_cons, List.filter_cons, List.filter_cons]
    by_cases c : a = p
    · subst c
      have f : r.filter (fun e => decide (e ≠ a)) = r := List.filter_eq_self.mpr fun e he => by
        simp
        rintro rfl
        exact h.1 he
      have g : (r.take m).filter (fun e => decide (e ≠ a)) = r.take m := List.filter_eq_self.mpr fun e he => by
        simp
        rintro rfl
        exact h.1 (List.mem_of_mem_take he)
      rw [if_neg (by simp), if_neg (by simp), f, g, List.take_take, Nat.min_self]
    · rw [if_pos (by simp [c]), if_pos (by simp [c])]
      cases m with
      | zero => rfl
      | succ m => rw [List.take_succ_cons, List.take_succ_cons, take_fil h.2]
theorem lookK_ins (x : Int) (v : List Int) (y : Int) : ∀ kn : List (Int × List Int), lookK (insK x v kn) y = if y = x then v else lookK kn y
  | [] => by
    unfold lookK insK
    by_cases c : y = x
    · subst c; simp [List.lookup]
    · have : (y == x) = false := beq_eq_false_iff_ne.mpr c
      simp [List.lookup, this, c]
  | (k', v') :: r => by
    have ih := lookK_ins x v y r
    unfold insK
    by_cases c1 : x < k'
    · rw [if_pos c1]
      unfold lookK
      by_cases c : y = x
      · subst c; simp [List.lookup]
      · have : (y == x) = false := beq_eq_false_iff_ne.mpr c
        rw [if_neg c, List.lookup_cons, this]
    · rw [if_neg c1]
      by_cases c2 : x = k'
      · rw [if_pos c2]
        subst c2
        unfold lookK
        by_cases c : y = x
        · subst c; simp [List.lookup]
        · have : (y == x) = false := beq_eq_false_iff_ne.mpr c
          rw [if_neg c, List.lookup_cons, this, List.lookup_cons, this]
      · rw [if_neg c2]
        unfold lookK at ih ⊢
        by_cases c : y = k'
        · subst c
          rw [if_neg (Ne.symm c2)]
          simp [List.lookup]
        · have : (y == k') = false := beq_eq_false_iff_ne.mpr c
          rw [List.lookup_cons, this, List.lookup_cons, this]
          exact ih
theorem stG_prs (m : Nat) : ∀ (r : List Int) (x : Int), ∃ kn, stG (.leaf "pairs" [((m + 1 : Nat) : Int)]) (r.reverse ++ [x]) = .prs (some x) kn ∧ ∀ y, lookK kn y = (fol (r.reverse ++ [x]) y).take (m + 1)
  | [], x => ⟨[], by rw [stG_snoc]; rfl, fun y => rfl⟩
  | z :: r, x => by
    obtain ⟨kn, e, h⟩ := stG_prs m r z
    refine ⟨knStep ((m + 1 : Nat) : Int) (some z) kn x, by rw [List.reverse_cons, stG_snoc, e]; rfl, fun y => ?_⟩
    unfold knStep
    rw [lookK_ins, List.reverse_cons, fol_snoc]
    have em : (((m + 1 : Nat) : Int) - 1).toNat = m := by omega
    by_cases c : y = z
    · subst c
      rw [if_pos rfl, if_pos rfl, List.take_succ_cons, h, em, take_fil (fol_nodup _ _)]
    · rw [if_neg c, if_neg (Ne.symm c), h]
theorem step_prs (n : Int) (h1 : 1 ≤ n) (init : List Int) (p : Int) : (stepG (.leaf "pairs" [n]) (stG (.leaf "pairs" [n]) init) p).2 = lawG (init ++ [p]) p (.leaf "pairs" [n]) := by
  show _ = (fol (init ++ [p]) p).take n.toNat
  obtain ⟨m, rfl⟩ : ∃ m : Nat, n = ((m + 1 : Nat) : Int) := ⟨n.toNat - 1, by omega⟩
  obtain ⟨r, rfl⟩ : ∃ r : List Int, init = r.reverse := ⟨init.reverse, by rw [List.reverse_reverse]⟩
  obtain ⟨kn, e, h⟩ := stG_prs m r p
  rw [stG_snoc] at e
  rw [Int.toNat_natCast, ← h]
  generalize stG (.leaf "pairs" [((m + 1 : Nat) : Int)]) r.reverse = s at e
  cases s with
  | prs l k =>
    have e' : Sg.prs (some p) (knStep ((m + 1 : Nat) : Int) l k p) = .prs (some p) kn := e
    injection e' with _ e'
    show lookK (knStep ((m + 1 : Nat) : Int) l k p) p = _
    rw [e']
  | str l st t =>
    have e' : (strStep ((m + 1 : Nat) : Int) l st t p).1 = .prs (some p) kn := e
    unfold strStep at e'
    cases l <;> cases e'
  | both a b =>
    have e' : Sg.both a b = .prs (some p) kn := e
    cases e'
theorem stG_both (a b : G) : ∀ (ps : List Int) (s t : Sg), ps.foldl (fun s p => (stepG (.both a b) s p).1) (.both s t) = .both (ps.foldl (fun s p => (stepG a s p).1) s) (ps.foldl (fun s p => (stepG b s p).1) t)
  | [], _, _ => rfl
  | p :: r, s, t => stG_both a b r (stepG a s p).1 (stepG b t p).1
theorem step_law : ∀ {k : Nat} {g : G}, good k g = true → ∀ (init : List Int) (p : Int), (stepG g (stG g init) p).2 = lawG (init ++ [p]) p g
  | _, .nil, h => by simp [good] at h
  | _, .b1 _, h => by simp [good] at h
  | _, .b3 _ _ _, h => by simp [good] at h
  | 0, .both _ _, h => by simp [good] at h
  | k + 1, .both a b, h => fun init p => by
    have h' : (good k a && good k b) = true := h
    rw [Bool.and_eq_true] at h'
    have ha := step_law h'.1 init p
    have hb := step_law h'.2 init p
    have e : stG (.both a b) init = .both (stG a init) (stG b init) := stG_both a b init _ _
    rw [e]
    show (stepG a (stG a init) p).2 ++ (stepG b (stG b init) p).2.filter _ = lawG (init ++ [p]) p a ++ (lawG (init ++ [p]) p b).filter _
    rw [ha, hb]
  | k, .leaf z ns, h => fun init p => by
    rcases good_leaf h with ⟨e, e2⟩ | ⟨n, e, hn, e2⟩
    · subst e
      rfl
    · subst e
      rcases e2 with rfl | rfl | rfl
      · have h3 : n = 1 ∨ n = 2 ∨ n = 3 := by omega
        show (List.range (hd0 [n]).toNat).map (fun (k : Nat) => p + (k : Int) + 1) = [p + 1, p + 2, p + 3].take (hd0 [n]).toNat
        rcases h3 with rfl | rfl | rfl
        · show [p + ((0 : Nat) : Int) + 1] = [p + 1]
          simp
        · show [p + ((0 : Nat) : Int) + 1, p + ((1 : Nat) : Int) + 1] = [p + 1, p + 2]
          congr 1
          · omega
          · congr 1; omega
        · show [p + ((0 : Nat) : Int) + 1, p + ((1 : Nat) : Int) + 1, p + ((2 : Nat) : Int) + 1] = [p + 1, p + 2, p + 3]
          congr 1
          · omega
          · congr 1
            · omega
            · congr 1; omega
      · exact step_str n (by omega) init p
      · exact step_prs n (by omega) init p
end St

namespace St
open PySem PySem.Spec PyProof.Rows L2
/-! ### the law's own run as it stands in memory: a dict by texts -/
structure LS where
  cells : List Int
  used : List (Int × Int)
  waits : List Int
  way : List (Int × Int)
  lies : List (Int × Int)
  story : List (Int × Str × Int)
  answers : List Int
  clock : Int
def ldk (cA uA wA yA lA sA aA : Addr) (k : Int) : List (Key × V) := [(Sum.inr "cells", .ref cA), (Sum.inr "used", .ref uA), (Sum.inr "waits", .ref wA), (Sum.inr "way", .ref yA), (Sum.inr "lies", .ref lA), (Sum.inr "story", .ref sA), (Sum.inr "answers", .ref aA), (Sum.inr "clock", .int k)]
section
variable {cA uA wA yA lA sA aA : Addr} {k : Int}
theorem ld_cells : valV (ldk cA uA wA yA lA sA aA k) (Sum.inr "cells" : Key) = some (.ref cA) := by rfl
theorem ld_used : valV (ldk cA uA wA yA lA sA aA k) (Sum.inr "used" : Key) = some (.ref uA) := by rfl
theorem ld_waits : valV (ldk cA uA wA yA lA sA aA k) (Sum.inr "waits" : Key) = some (.ref wA) := by rfl
theorem ld_way : valV (ldk cA uA wA yA lA sA aA k) (Sum.inr "way" : Key) = some (.ref yA) := by rfl
theorem ld_lies : valV (ldk cA uA wA yA lA sA aA k) (Sum.inr "lies" : Key) = some (.ref lA) := by rfl
theorem ld_story : valV (ldk cA uA wA yA lA sA aA k) (Sum.inr "story" : Key) = some (.ref sA) := by rfl
theorem ld_answers : valV (ldk cA uA wA yA lA sA aA k) (Sum.inr "answers" : Key) = some (.ref aA) := by rfl
theorem ld_clock : valV (ldk cA uA wA yA lA sA aA k) (Sum.inr "clock" : Key) = some (.int k) := by rfl
theorem pd_waits {x : Addr} : putK (ldk cA uA wA yA lA sA aA k) (Sum.inr "waits" : Key) (.ref x) = ldk cA uA x yA lA sA aA k := by rfl
theorem pd_way {x : Addr} : putK (ldk cA uA wA yA lA sA aA k) (Sum.inr "way" : Key) (.ref x) = ldk cA uA wA x lA sA aA k := by rfl
theorem pd_clock {x : Int} : putK (ldk cA uA wA yA lA sA aA k) (Sum.inr "clock" : Key) (.int x) = ldk cA uA wA yA lA sA aA x := by rfl
end
structure LsO (K : PySem.W.Frag) (H0 H : Hp) (p cA uA wA yA lA sA aA : Addr) (s : LS) : Prop where
  ob : H p = some (.dK (ldk cA uA wA yA lA sA aA s.clock))
  s0 : Same H0 H
  np : H0 p = none
  nc : H0 cA = none
  nu : H0 uA = none
  nw : H0 wA = none
  ny : H0 yA = none
  nl : H0 lA = none
  ns : H0 sA = none
  na : H0 aA = none
  pu : p ≠ uA
  pl : p ≠ lA
  ul : uA ≠ lA
  cw : cA ≠ wA
  cy : cA ≠ yA
  cs : cA ≠ sA
  ca : cA ≠ aA
  wy : wA ≠ yA
  ws : wA ≠ sA
  wa : wA ≠ aA
  ys : yA ≠ sA
  ya : yA ≠ aA
  sa : sA ≠ aA
  hc : H cA = some (.lst (s.cells.map V.int))
  hu : H uA = some (.dK (dki s.used))
  hw : H wA = some (.lst (s.waits.map V.int))
  hy : IsWL K H yA s.way
  hl : H lA = some (.dK (dki s.lies))
  hs : IsRs K H sA s.story
  ha : H aA = some (.lst (s.answers.map V.int))
theorem IsRs.same {K : PySem.W.Frag} {H H' : Hp} {a : Addr} {rs : List (Int × Str × Int)} (h : IsRs K H a rs) (e : Same H H') : IsRs K H' a rs := by
  obtain ⟨as, h1, h2⟩ := h
  exact ⟨as, e _ _ h1, h2.imm (Imm.same e)⟩
theorem IsRs.ne {K : PySem.W.Frag} {H : Hp} {a x : Addr} {o : HO} {rs : List (Int × Str × Int)} (h : IsRs K H a rs) (n : a ≠ x) (im : Imm H (upd H x o)) : IsRs K (upd H x o) a rs := by
  obtain ⟨as, h1, h2⟩ := h
  exact ⟨as, by rw [upd_ne n]; exact h1, h2.imm im⟩
theorem IsWL.ne {K : PySem.W.Frag} {H : Hp} {a x : Addr} {o : HO} {rs : Way} (h : IsWL K H a rs) (n : a ≠ x) (im : Imm H (upd H x o)) : IsWL K (upd H x o) a rs := by
  obtain ⟨as, h1, h2⟩ := h
  exact ⟨as, by rw [upd_ne n]; exact h1, h2.imm im⟩
section
variable {K : PySem.W.Frag} {H0 H : Hp} {p cA uA wA yA lA sA aA : Addr} {s : LS}
theorem LsO.neD (o : LsO K H0 H p cA uA wA yA lA sA aA s) : (p ≠ cA ∧ p ≠ wA ∧ p ≠ yA ∧ p ≠ sA ∧ p ≠ aA) ∧ (uA ≠ cA ∧ uA ≠ wA ∧ uA ≠ yA ∧ uA ≠ sA ∧ uA ≠ aA) ∧ (lA ≠ cA ∧ lA ≠ wA ∧ lA ≠ yA ∧ lA ≠ sA ∧ lA ≠ aA) := by
  obtain ⟨ys, y1, _⟩ := o.hy
  obtain ⟨ss, s1, _⟩ := o.hs
  exact ⟨⟨ne_of o.ob o.hc (by intro z; cases z), ne_of o.ob o.hw (by intro z; cases z), ne_of o.ob y1 (by intro z; cases z), ne_of o.ob s1 (by intro z; cases z), ne_of o.ob o.ha (by intro z; cases z)⟩,
    ⟨ne_of o.hu o.hc (by intro z; cases z), ne_of o.hu o.hw (by intro z; cases z), ne_of o.hu y1 (by intro z; cases z), ne_of o.hu s1 (by intro z; cases z), ne_of o.hu o.ha (by intro z; cases z)⟩,
    ⟨ne_of o.hl o.hc (by intro z; cases z), ne_of o.hl o.hw (by intro z; cases z), ne_of o.hl y1 (by intro z; cases z), ne_of o.hl s1 (by intro z; cases z), ne_of o.hl o.ha (by intro z; cases z)⟩⟩
theorem LsO.same {H' : Hp} (o : LsO K H0 H p cA uA wA yA lA sA aA s) (e : Same H H') : LsO K H0 H' p cA uA wA yA lA sA aA s :=
  ⟨e _ _ o.ob, o.s0.trans e, o.np, o.nc, o.nu, o.nw, o.ny, o.nl, o.ns, o.na, o.pu, o.pl, o.ul, o.cw, o.cy, o.cs, o.ca, o.wy, o.ws, o.wa, o.ys, o.ya, o.sa, e _ _ o.hc, e _ _ o.hu, e _ _ o.hw, o.hy.same e, e _ _ o.hl, o.hs.same e, e _ _ o.ha⟩
theorem immD {x : Addr} {kvs : List (Key × V)} {u : HO} (h : H x = some (.dK kvs)) : Imm H (L2.upd H x u) := Imm.updN h (by intro _ z; cases z) (by intro _ _ z; cases z)
theorem LsO.clk (o : LsO K H0 H p cA uA wA yA lA sA aA s) (k : Int) : LsO K H0 (upd H p (.dK (ldk cA uA wA yA lA sA aA k))) p cA uA wA yA lA sA aA { s with clock := k } := by
  obtain ⟨⟨n1, n2, n3, n4, n5⟩, _, _⟩ := o.neD
  have im : Imm H (upd H p (.dK (ldk cA uA wA yA lA sA aA k))) := immD o.ob
  exact ⟨upd_same, same_mut o.s0 o.np, o.np, o.nc, o.nu, o.nw, o.ny, o.nl, o.ns, o.na, o.pu, o.pl, o.ul, o.cw, o.cy, o.cs, o.ca, o.wy, o.ws, o.wa, o.ys, o.ya, o.sa,
    by rw [upd_ne n1.symm]; exact o.hc, by rw [upd_ne o.pu.symm]; exact o.hu, by rw [upd_ne n2.symm]; exact o.hw, o.hy.ne n3.symm im, by rw [upd_ne o.pl.symm]; exact o.hl, o.hs.ne n4.symm im, by rw [upd_ne n5.symm]; exact o.ha⟩
theorem LsO.use (o : LsO K H0 H p cA uA wA yA lA sA aA s) (l : List (Int × Int)) : LsO K H0 (upd H uA (.dK (dki l))) p cA uA wA yA lA sA aA { s with used := l } := by
  obtain ⟨_, ⟨n1, n2, n3, n4, n5⟩, _⟩ := o.neD
  have im : Imm H (upd H uA (.dK (dki l))) := immD o.hu
  exact ⟨by rw [upd_ne o.pu]; exact o.ob, same_mut o.s0 o.nu, o.np, o.nc, o.nu, o.nw, o.ny, o.nl, o.ns, o.na, o.pu, o.pl, o.ul, o.cw, o.cy, o.cs, o.ca, o.wy, o.ws, o.wa, o.ys, o.ya, o.sa,
    by rw [upd_ne n1.symm]; exact o.hc, upd_same, by rw [upd_ne n2.symm]; exact o.hw, o.hy.ne n3.symm im, by rw [upd_ne o.ul.symm]; exact o.hl, o.hs.ne n4.symm im, by rw [upd_ne n5.symm]; exact o.ha⟩
theorem LsO.lie (o : LsO K H0 H p cA uA wA yA lA sA aA s) (l : List (Int × Int)) : LsO K H0 (upd H lA (.dK (dki l))) p cA uA wA yA lA sA aA { s with lies := l } := by
  obtain ⟨_, _, ⟨n1, n2, n3, n4, n5⟩⟩ := o.neD
  have im : Imm H (upd H lA (.dK (dki l))) := immD o.hl
  exact ⟨by rw [upd_ne o.pl]; exact o.ob, same_mut o.s0 o.nl, o.np, o.nc, o.nu, o.nw, o.ny, o.nl, o.ns, o.na, o.pu, o.pl, o.ul, o.cw, o.cy, o.cs, o.ca, o.wy, o.ws, o.wa, o.ys, o.ya, o.sa,
    by rw [upd_ne n1.symm]; exact o.hc, by rw [upd_ne o.ul]; exact o.hu, by rw [upd_ne n2.symm]; exact o.hw, o.hy.ne n3.symm im, upd_same, o.hs.ne n4.symm im, by rw [upd_ne n5.symm]; exact o.ha⟩
theorem LsO.stor {as : List Addr} {q : Addr} {t r : Int} {x : Str} (o : LsO K H0 H p cA uA wA yA lA sA aA s) (h1 : H sA = some (.lst (as.map V.ref))) (h2 : PrR K H as s.story) (hq : SqT K H q [.int t, .str x, .int r]) :
    LsO K H0 (upd H sA (.lst (as.map V.ref ++ [.ref q]))) p cA uA wA yA lA sA aA { s with story := s.story ++ [(t, x, r)] } := by
  obtain ⟨⟨_, _, _, m1, _⟩, ⟨_, _, _, m2, _⟩, ⟨_, _, _, m3, _⟩⟩ := o.neD
  have im : Imm H (upd H sA (.lst (as.map V.ref ++ [.ref q]))) := Imm.upd ⟨_, h1⟩
  exact ⟨by rw [upd_ne m1]; exact o.ob, same_mut o.s0 o.ns, o.np, o.nc, o.nu, o.nw, o.ny, o.nl, o.ns, o.na, o.pu, o.pl, o.ul, o.cw, o.cy, o.cs, o.ca, o.wy, o.ws, o.wa, o.ys, o.ya, o.sa,
    by rw [upd_ne o.cs]; exact o.hc, by rw [upd_ne m2]; exact o.hu, by rw [upd_ne o.ws]; exact o.hw, o.hy.ne o.ys im, by rw [upd_ne m3]; exact o.hl, ⟨as ++ [q], by rw [upd_same, List.map_append]; rfl, Paired.snoc (h2.imm im) (im.t hq)⟩, by rw [upd_ne o.sa.symm]; exact o.ha⟩
theorem LsO.ans (o : LsO K H0 H p cA uA wA yA lA sA aA s) (l : List Int) : LsO K H0 (upd H aA (.lst (l.map V.int))) p cA uA wA yA lA sA aA { s with answers := l } := by
  obtain ⟨⟨_, _, _, _, m1⟩, ⟨_, _, _, _, m2⟩, ⟨_, _, _, _, m3⟩⟩ := o.neD
  have im : Imm H (upd H aA (.lst (l.map V.int))) := Imm.upd ⟨_, o.ha⟩
  exact ⟨by rw [upd_ne m1]; exact o.ob, same_mut o.s0 o.na, o.np, o.nc, o.nu, o.nw, o.ny, o.nl, o.ns, o.na, o.pu, o.pl, o.ul, o.cw, o.cy, o.cs, o.ca, o.wy, o.ws, o.wa, o.ys, o.ya, o.sa,
    by rw [upd_ne o.ca]; exact o.hc, by rw [upd_ne m2]; exact o.hu, by rw [upd_ne o.wa]; exact o.hw, o.hy.ne o.ya im, by rw [upd_ne m3]; exact o.hl, o.hs.ne o.sa im, upd_same⟩
theorem LsO.cel (o : LsO K H0 H p cA uA wA yA lA sA aA s) (l : List Int) : LsO K H0 (upd H cA (.lst (l.map V.int))) p cA uA wA yA lA sA aA { s with cells := l } := by
  obtain ⟨⟨m1, _, _, _, _⟩, ⟨m2, _, _, _, _⟩, ⟨m3, _, _, _, _⟩⟩ := o.neD
  have im : Imm H (upd H cA (.lst (l.map V.int))) := Imm.upd ⟨_, o.hc⟩
  exact ⟨by rw [upd_ne m1]; exact o.ob, same_mut o.s0 o.nc, o.np, o.nc, o.nu, o.nw, o.ny, o.nl, o.ns, o.na, o.pu, o.pl, o.ul, o.cw, o.cy, o.cs, o.ca, o.wy, o.ws, o.wa, o.ys, o.ya, o.sa,
    upd_same, by rw [upd_ne m2]; exact o.hu, by rw [upd_ne o.cw.symm]; exact o.hw, o.hy.ne o.cy.symm im, by rw [upd_ne m3]; exact o.hl, o.hs.ne o.cs.symm im, by rw [upd_ne o.ca.symm]; exact o.ha⟩
/-- waits, in its place -/
theorem LsO.wai (o : LsO K H0 H p cA uA wA yA lA sA aA s) (l : List Int) : LsO K H0 (upd H wA (.lst (l.map V.int))) p cA uA wA yA lA sA aA { s with waits := l } := by
  obtain ⟨⟨_, m1, _, _, _⟩, ⟨_, m2, _, _, _⟩, ⟨_, m3, _, _, _⟩⟩ := o.neD
  have im : Imm H (upd H wA (.lst (l.map V.int))) := Imm.upd ⟨_, o.hw⟩
  exact ⟨by rw [upd_ne m1]; exact o.ob, same_mut o.s0 o.nw, o.np, o.nc, o.nu, o.nw, o.ny, o.nl, o.ns, o.na, o.pu, o.pl, o.ul, o.cw, o.cy, o.cs, o.ca, o.wy, o.ws, o.wa, o.ys, o.ya, o.sa,
    by rw [upd_ne o.cw]; exact o.hc, by rw [upd_ne m2]; exact o.hu, upd_same, o.hy.ne o.wy.symm im, by rw [upd_ne m3]; exact o.hl, o.hs.ne o.ws.symm im, by rw [upd_ne o.wa.symm]; exact o.ha⟩
/-- waits, a new list -/
theorem LsO.waiN {H' : Hp} {w' : Addr} {l : List Int} (o : LsO K H0 H p cA uA wA yA lA sA aA s) (e : Same H H') (n : H w' = none) (h : H' w' = some (.lst (l.map V.int))) :
    LsO K H0 (upd H' p (.dK (ldk cA uA w' yA lA sA aA s.clock))) p cA uA w' yA lA sA aA { s with waits := l } := by
  have o' := o.same e
  obtain ⟨⟨n1, n2, n3, n4, n5⟩, _, _⟩ := o'.neD
  obtain ⟨ys, y1, _⟩ := o.hy
  obtain ⟨ss, s1, _⟩ := o.hs
  have nwp : w' ≠ p := (ne_of_none o.ob n).symm
  have im : Imm H' (upd H' p (.dK (ldk cA uA w' yA lA sA aA s.clock))) := immD o'.ob
  exact ⟨upd_same, same_mut o'.s0 o.np, o.np, o.nc, o.nu, o.s0.free n, o.ny, o.nl, o.ns, o.na, o.pu, o.pl, o.ul, ne_of_none o.hc n, o.cy, o.cs, o.ca, (ne_of_none y1 n).symm, (ne_of_none s1 n).symm, (ne_of_none o.ha n).symm, o.ys, o.ya, o.sa,
    by rw [upd_ne n1.symm]; exact o'.hc, by rw [upd_ne o.pu.symm]; exact o'.hu, by rw [upd_ne nwp]; exact h, o'.hy.ne n3.symm im, by rw [upd_ne o.pl.symm]; exact o'.hl, o'.hs.ne n4.symm im, by rw [upd_ne n5.symm]; exact o'.ha⟩
/-- the way, a new list -/
theorem LsO.wayN {H' : Hp} {y' : Addr} {l : Way} (o : LsO K H0 H p cA uA wA yA lA sA aA s) (e : Same H H') (n : H y' = none) (h : IsWL K H' y' l) :
    LsO K H0 (upd H' p (.dK (ldk cA uA wA y' lA sA aA s.clock))) p cA uA wA y' lA sA aA { s with way := l } := by
  have o' := o.same e
  obtain ⟨⟨n1, n2, n3, n4, n5⟩, _, _⟩ := o'.neD
  obtain ⟨ss, s1, _⟩ := o.hs
  have nyp : y' ≠ p := (ne_of_none o.ob n).symm
  have im : Imm H' (upd H' p (.dK (ldk cA uA wA y' lA sA aA s.clock))) := immD o'.ob
  exact ⟨upd_same, same_mut o'.s0 o.np, o.np, o.nc, o.nu, o.nw, o.s0.free n, o.nl, o.ns, o.na, o.pu, o.pl, o.ul, o.cw, ne_of_none o.hc n, o.cs, o.ca, ne_of_none o.hw n, o.ws, o.wa, (ne_of_none s1 n).symm, (ne_of_none o.ha n).symm, o.sa,
    by rw [upd_ne n1.symm]; exact o'.hc, by rw [upd_ne o.pu.symm]; exact o'.hu, by rw [upd_ne n2.symm]; exact o'.hw, h.ne nyp im, by rw [upd_ne o.pl.symm]; exact o'.hl, o'.hs.ne n4.symm im, by rw [upd_ne n5.symm]; exact o'.ha⟩
/-- the way, one more in its place -/
theorem LsO.wayP {as : List Addr} {q : Addr} {x b : Int} (o : LsO K H0 H p cA uA wA yA lA sA aA s) (h1 : H yA = some (.lst (as.map V.ref))) (h2 : PrW K H as s.way) (hq : SqT K H q [.int x, .int b]) :
    LsO K H0 (upd H yA (.lst (as.map V.ref ++ [.ref q]))) p cA uA wA yA lA sA aA { s with way := s.way ++ [(x, b)] } := by
  obtain ⟨⟨_, _, m1, _, _⟩, ⟨_, _, m2, _, _⟩, ⟨_, _, m3, _, _⟩⟩ := o.neD
  have im : Imm H (upd H yA (.lst (as.map V.ref ++ [.ref q]))) := Imm.upd ⟨_, h1⟩
  exact ⟨by rw [upd_ne m1]; exact o.ob, same_mut o.s0 o.ny, o.np, o.nc, o.nu, o.nw, o.ny, o.nl, o.ns, o.na, o.pu, o.pl, o.ul, o.cw, o.cy, o.cs, o.ca, o.wy, o.ws, o.wa, o.ys, o.ya, o.sa,
    by rw [upd_ne o.cy]; exact o.hc, by rw [upd_ne m2]; exact o.hu, by rw [upd_ne o.wy]; exact o.hw, IsWL.put h1 h2 hq, by rw [upd_ne m3]; exact o.hl, o.hs.ne o.ys.symm im, by rw [upd_ne o.ya.symm]; exact o.ha⟩
end
end St

namespace St
open PySem PySem.Spec PyProof.Rows L2
abbrev s__law_laid : Stmt := topS 48
abbrev N__law_laid : List Str := ["_law_s", "_law_room", "_law_turn", "_law_place", "_law_word", "_law_old", "_law_one", "_law_other"]
abbrev p__law_laid : List Str := ["_law_s", "_law_room", "_law_turn", "_law_place", "_law_word"]
theorem sc__law_laid : FnScope N__law_laid p__law_laid (defScope s__law_laid) := ⟨rfl, rfl, rfl, by decide +kernel, rfl, by decide +kernel, by decide +kernel⟩
theorem minK_ {X : Cx} {K : PySem.W.Frag} (hc : X.calm = true) (h : X.K = K := by rfl) : CallR X (.builtin "min") (rMin K) := h ▸ cr_min hc
def outL (turn old : Int) (s : LS) : LS := { s with story := s.story ++ [(turn, (if old ∈ s.waits then "waste" else "leave" : Str), old)], waits := s.waits.filter (fun e => decide (e ≠ old)), lies := s.lies.filter (fun e => decide (e.1 ≠ old)) }
def inL (turn place : Int) (word : Str) (s : LS) : LS := { s with clock := s.clock + 1, used := putI s.used place (s.clock + 1), lies := putI s.lies place (s.cells.getD place.toNat 0), story := s.story ++ [(turn, word, place)] }
def laidL (room turn place : Int) (word : Str) (old : Int) (s : LS) : LS := inL turn place word (if ((s.lies.length : Nat) : Int) = room then outL turn old s else s)
def Us (s : LS) (q : Int) : Int := (s.used.lookup q).getD 0
section
variable {K : PySem.W.Frag} {H0 H1 H : Hp} {p cA uA wA yA lA sA aA : Addr} {s : LS}
theorem LsO.g_cells (o : LsO K H0 H p cA uA wA yA lA sA aA s) : DGet H p (.str "cells") (some (.ref cA)) := by have z := DGet.k (k := Sum.inr "cells") o.ob; rw [ld_cells] at z; exact z
theorem LsO.g_used (o : LsO K H0 H p cA uA wA yA lA sA aA s) : DGet H p (.str "used") (some (.ref uA)) := by have z := DGet.k (k := Sum.inr "used") o.ob; rw [ld_used] at z; exact z
theorem LsO.g_waits (o : LsO K H0 H p cA uA wA yA lA sA aA s) : DGet H p (.str "waits") (some (.ref wA)) := by have z := DGet.k (k := Sum.inr "waits") o.ob; rw [ld_waits] at z; exact z
theorem LsO.g_way (o : LsO K H0 H p cA uA wA yA lA sA aA s) : DGet H p (.str "way") (some (.ref yA)) := by have z := DGet.k (k := Sum.inr "way") o.ob; rw [ld_way] at z; exact z
theorem LsO.g_lies (o : LsO K H0 H p cA uA wA yA lA sA aA s) : DGet H p (.str "lies") (some (.ref lA)) := by have z := DGet.k (k := Sum.inr "lies") o.ob; rw [ld_lies] at z; exact z
theorem LsO.g_story (o : LsO K H0 H p cA uA wA yA lA sA aA s) : DGet H p (.str "story") (some (.ref sA)) := by have z := DGet.k (k := Sum.inr "story") o.ob; rw [ld_story] at z; exact z
theorem LsO.g_answers (o : LsO K H0 H p cA uA wA yA lA sA aA s) : DGet H p (.str "answers") (some (.ref aA)) := by have z := DGet.k (k := Sum.inr "answers") o.ob; rw [ld_answers] at z; exact z
theorem LsO.g_clock (o : LsO K H0 H p cA uA wA yA lA sA aA s) : DGet H p (.str "clock") (some (.int s.clock)) := by have z := DGet.k (k := Sum.inr "clock") o.ob; rw [ld_clock] at z; exact z
theorem LsO.g_u (o : LsO K H0 H p cA uA wA yA lA sA aA s) {q : Int} (h : q ∈ ks s.used) : DGet H uA (.int q) (some (.int (Us s q))) := by
  have z := DGet.k (k := Sum.inl q) o.hu
  obtain ⟨v, e⟩ := look_ks h
  rw [val_dki, e] at z
  have : Us s q = v := by unfold Us; rw [e]; rfl
  rw [this]
  exact z
theorem LsO.weak (o : LsO K H1 H p cA uA wA yA lA sA aA s) (e : Same H0 H1) : LsO K H0 H p cA uA wA yA lA sA aA s :=
  ⟨o.ob, e.trans o.s0, e.free o.np, e.free o.nc, e.free o.nu, e.free o.nw, e.free o.ny, e.free o.nl, e.free o.ns, e.free o.na, o.pu, o.pl, o.ul, o.cw, o.cy, o.cs, o.ca, o.wy, o.ws, o.wa, o.ys, o.ya, o.sa, o.hc, o.hu, o.hw, o.hy, o.hl, o.hs, o.ha⟩
/-- all but the run's own -/
def mb (H : Hp) (xs : List Addr) : Hp := fun x => if x ∈ xs then none else H x
theorem LsO.max (o : LsO K H0 H p cA uA wA yA lA sA aA s) : LsO K (mb H [p, cA, uA, wA, yA, lA, sA, aA]) H p cA uA wA yA lA sA aA s ∧ Same H0 (mb H [p, cA, uA, wA, yA, lA, sA, aA]) := by
  have z : ∀ x, x ∈ [p, cA, uA, wA, yA, lA, sA, aA] → mb H [p, cA, uA, wA, yA, lA, sA, aA] x = none := fun x h => if_pos h
  refine ⟨⟨o.ob, fun b u e => ?_, z _ (by simp), z _ (by simp), z _ (by simp), z _ (by simp), z _ (by simp), z _ (by simp), z _ (by simp), z _ (by simp), o.pu, o.pl, o.ul, o.cw, o.cy, o.cs, o.ca, o.wy, o.ws, o.wa, o.ys, o.ya, o.sa, o.hc, o.hu, o.hw, o.hy, o.hl, o.hs, o.ha⟩, fun b u e => ?_⟩
  · unfold mb at e
    split at e
    · cases e
    · exact e
  · have : b ∉ [p, cA, uA, wA, yA, lA, sA, aA] := fun h => by
      simp only [List.mem_cons, List.not_mem_nil, or_false] at h
      rcases h with rfl | rfl | rfl | rfl | rfl | rfl | rfl | rfl
      · rw [o.np] at e; cases e
      · rw [o.nc] at e; cases e
      · rw [o.nu] at e; cases e
      · rw [o.nw] at e; cases e
      · rw [o.ny] at e; cases e
      · rw [o.nl] at e; cases e
      · rw [o.ns] at e; cases e
      · rw [o.na] at e; cases e
    show (if b ∈ _ then none else H b) = some u
    rw [if_neg this]
    exact o.s0 _ _ e
end
theorem dki_at {l : List (Int × Int)} {i : Nat} {k : Key} {v : V} (h : (dki l)[i]? = some (k, v)) : ∃ q, k = Sum.inl q ∧ (ks l)[i]? = some q ∧ q ∈ ks l ∧ (ks l).take (i + 1) = (ks l).take i ++ [q] := by
  unfold dki at h
  rw [List.getElem?_map] at h
  cases e : l[i]? with
  | none => rw [e] at h; cases h
  | some x =>
    rw [e] at h
    cases Option.some.inj h
    have e2 : (ks l)[i]? = some x.1 := by unfold ks; rw [List.getElem?_map, e]; rfl
    exact ⟨x.1, rfl, e2, List.mem_of_getElem? e2, by rw [List.take_add_one, e2]; rfl⟩
theorem filter_one {l : List Int} {q : Int} (nd : l.Nodup) (h : q ∈ l) : l.filter (fun e => decide (e = q)) = [q] := by
  induction l with
  | nil => cases h
  | cons a r ih =>
    rw [List.nodup_cons] at nd
    rw [List.filter_cons]
    by_cases c : a = q
    · subst c
      rw [if_pos (by simp)]
      have : r.filter (fun e => decide (e = a)) = [] := List.filter_eq_nil_iff.mpr fun e he => by
        simp
        rintro rfl
        exact nd.1 he
      rw [this]
    · rw [if_neg (by simp [c])]
      rcases List.mem_cons.mp h with h | h
      · exact absurd h.symm c
      · exact ih nd.2 h
section
variable {P : Program} {w : World} {K : PySem.W.Frag} {mg : Str → Option Value} {base : Heap} {f : Addr} {fd : FuncData}
structure LaidOk (room place : Int) (old : Int) (s : LS) : Prop where
  pl : 0 ≤ place ∧ place < ((s.cells.length : Nat) : Int)
  us : ∀ q ∈ ks s.lies, q ∈ ks s.used
  nd : (ks s.lies).Nodup
  ol : ((s.lies.length : Nat) : Int) = room → old ∈ ks s.lies ∧ ∀ q ∈ ks s.lies, q ≠ old → Us s old < Us s q
  z1 : s.lies.length ≤ 10000
  z2 : s.used.length ≤ 10000
  z3 : s.waits.length ≤ 10000
  z4 : s.story.length ≤ 100000
def spLL (K : PySem.W.Frag) : Sp := fun vs H Q _ => ∃ (p cA uA wA yA lA sA aA : Addr) (s : LS) (H0 : Hp) (room turn place old : Int) (word : Str), vs = [.ref p, .int room, .int turn, .int place, .str word] ∧ LsO K H0 H p cA uA wA yA lA sA aA s ∧ LaidOk room place old s ∧
  ∀ wA' H', Imm H H' → LsO K H0 H' p cA uA wA' yA lA sA aA (laidL room turn place word old s) → Q .non H'
theorem ok__law_laid (T : Nms mg) (F : Fun K "_law_laid" "_law_laid" s__law_laid f fd) : FnOk P w K mg base CX0 1 f fd p__law_laid (spLL K) := by
  refine F.ok sc__law_laid (fun vs H Q E h => ?_) (fun cdv A outer s H vs Q E hr h => ?_)
  · obtain ⟨p, cA, uA, wA, yA, lA, sA, aA, s, H0, room, turn, place, old, word, rfl, _⟩ := h
    rfl
  obtain ⟨p, cA, uA, wA, yA, lA, sA, aA, s, H0, room, turn, place, old, word, rfl, o, L, q⟩ := h
  refine ⟨_, (pss_cons (ps_if (pt_cmpR op_eq (pe_callB call_lenD (by rfl) T.n_len (by decide +kernel) (pa_cons (pe_dget (hu_of hr) (pv 0) pe_str (fun _ _ => rfl)) pa_nil)) (pv 1) (nomark _))
    (pss_cons (ps_set (i := 5) sc__law_laid.nd rfl (Or.inr rfl) (pe_ix ix_list (pe_lock (pe_lc (own := [("_law_one", 6)]) (g := gName 6) rfl sc__law_laid.nd (pi_keys (pe_dget (hu_of hr) (pv 0) pe_str (fun _ _ => rfl))) (blkOk_by (own := [("_law_one", 6)]) (N := N__law_laid) (sc := defScope s__law_laid) (by decide +kernel)) (fun _ _ _ _ _ => pg_name (i := 6) sc__law_laid.nd rfl (Or.inl rfl)) (fun _ _ _ _ _ => pts_one (pt_cmpR op_eq (pe_dget (hu_of hr) (pe_dget (hu_of hr) (pv 0) pe_str (fun _ _ => rfl)) (pv 6) (fun _ _ => rfl)) (pe_callB (minK_ (K := K) rfl) (by rfl) T.n_min (by decide +kernel) (pa_cons (pe_lc (own := [("_law_other", 7)]) (g := gName 7) rfl sc__law_laid.nd (pi_keys (pe_dget (hu_of hr) (pv 0) pe_str (fun _ _ => rfl))) (blkOk_by (own := [("_law_other", 7)]) (N := N__law_laid) (sc := ({ kind := ScopeKind.function, names := [((".0" : Str), NameKind.local), (("_law_one" : Str), NameKind.local), (("min" : Str), NameKind.globalImplicit), (("_law_s" : Str), NameKind.cell)], isGenerator := false, isCoroutine := false } : Scope)) (by decide +kernel)) (fun _ _ _ _ _ => pg_name (i := 7) sc__law_laid.nd rfl (Or.inl rfl)) (fun _ _ _ _ _ => pts_nil) (fun _ _ _ _ _ => (pe_dget (hu_of hr) (pe_dget (hu_of hr) (pv 0) pe_str (fun _ _ => rfl)) (pv 7) (fun _ _ => rfl)))) pa_nil)) (nomark _))) (fun _ _ _ _ _ => (pv 6)))) pe_int (fun _ _ => rfl)))
    (pss_cons (ps_expr (pe_bm PySem.F.plainAttrs_list PySem.F.slot_list_append PySem.F.type_list_append mt_append (pe_dget (hu_of hr) (pv 0) pe_str (fun _ _ => rfl)) (pa_cons (pe_tup (pa_cons (pv 2) (pa_cons (pe_ifExp (pt_cmpR op_in_seq (pv 5) (pe_dget (hu_of hr) (pv 0) pe_str (fun _ _ => rfl)) (by with_unfolding_all rfl)) pe_str pe_str) (pa_cons (pv 5) pa_nil)))) pa_nil)))
    (pss_cons (ps_dput (hu_of hr) (pv 0) pe_str (pe_lc (own := [("_law_one", 6)]) (g := gName 6) rfl sc__law_laid.nd (pi_list (pe_dget (hu_of hr) (pv 0) pe_str (fun _ _ => rfl))) (blkOk_by (own := [("_law_one", 6)]) (N := N__law_laid) (sc := defScope s__law_laid) (by decide +kernel)) (fun _ _ _ _ _ => pg_name (i := 6) sc__law_laid.nd rfl (Or.inl rfl)) (fun _ _ _ _ _ => pts_one (pt_cmpR op_ne (pv 6) (pv 5) (nomark _))) (fun _ _ _ _ _ => (pv 6))) rfl)
    (pss_one (ps_expr (pe_dpop1 (pe_dget (hu_of hr) (pv 0) pe_str (fun _ _ => rfl)) (pv 5) ⟨rfl, rfl, rfl, rfl⟩))))))
    (pss_nil))
  (pss_cons (ps_dput (hu_of hr) (pv 0) pe_str (pe_op op_add (pe_dget (hu_of hr) (pv 0) pe_str (fun _ _ => rfl)) pe_int) rfl)
  (pss_cons (ps_dput (hu_of hr) (pe_dget (hu_of hr) (pv 0) pe_str (fun _ _ => rfl)) (pv 3) (pe_dget (hu_of hr) (pv 0) pe_str (fun _ _ => rfl)) rfl)
  (pss_cons (ps_dput (hu_of hr) (pe_dget (hu_of hr) (pv 0) pe_str (fun _ _ => rfl)) (pv 3) (pe_ix ix_list (pe_dget (hu_of hr) (pv 0) pe_str (fun _ _ => rfl)) (pv 3) (fun _ _ => rfl)) rfl)
  (pss_one (ps_expr (pe_bm PySem.F.plainAttrs_list PySem.F.slot_list_append PySem.F.type_list_append mt_append (pe_dget (hu_of hr) (pv 0) pe_str (fun _ _ => rfl)) (pa_cons (pe_tup (pa_cons (pv 2) (pa_cons (pv 4) (pa_cons (pv 3) pa_nil)))) pa_nil)))))))), ?_⟩
  refine ⟨_, rfl, p, _, rfl, o.g_lies, ?_⟩
  refine ⟨lA, _, rfl, o.hl, ?_⟩
  and_intros
  have ldk_ : (dki s.lies).length = s.lies.length := by unfold dki; exact List.length_map _
  -- behind the test
  have fin : ∀ (t : LS) (wA' : Addr) (H5 : Hp) (y5 : Option V), LsO K H0 H5 p cA uA wA' yA lA sA aA t → Imm H H5 → t.lies.length ≤ 10000 → t.used.length ≤ 10000 → t.story.length ≤ 100001 → (0 ≤ place ∧ place < ((t.cells.length : Nat) : Int)) →
      (∀ wA' H', Imm H H' → LsO K H0 H' p cA uA wA' yA lA sA aA (inL turn place word t) → Q .non H') →
      tSeq (sDPut (tVar 0) (tC (.str "clock")) (tOp (rI0 fun i j => .int (i + j)) (tDGet (tVar 0) (tC (.str "clock"))) (tC (.int 1))))
        (tSeq (sDPut (tDGet (tVar 0) (tC (.str "used"))) (tVar 3) (tDGet (tVar 0) (tC (.str "clock"))))
        (tSeq (sDPut (tDGet (tVar 0) (tC (.str "lies"))) (tVar 3) (tOp (rIxL K) (tDGet (tVar 0) (tC (.str "cells"))) (tVar 3)))
        (tDrop (tBM K "list" rAppend (tDGet (tVar 0) (tC (.str "story"))) (tCons (tTup (tCons (tVar 2) (tCons (tVar 4) (tCons (tVar 3) tNil)))) tNil)))))
        { nx := fun _ H' => Q .non H', rt := Q } [some (.ref p), some (.int room), some (.int turn), some (.int place), some (.str word), y5, none, none] H5 := by
    intro t wA' H5 y5 o5 im5 z1 z2 z4 pl5 q5
    refine ⟨_, rfl, p, _, rfl, o5.g_clock, _, _, rfl, rfl, _, rfl, p, _, rfl, DPut.k (k := Sum.inr "clock") o5.ob (by show 8 < sizeLine; decide), ?_⟩
    rw [pd_clock]
    have o6 := o5.clk (t.clock + 1)
    have im6 := im5.trans (immD (u := .dK (ldk cA uA wA' yA lA sA aA (t.clock + 1))) o5.ob)
    generalize upd H5 p (.dK (ldk cA uA wA' yA lA sA aA (t.clock + 1))) = H6 at o6 im6 ⊢
    have h6u : H6 uA = some (.dK (dki t.used)) := o6.hu
    refine ⟨_, rfl, p, _, rfl, o6.g_clock, _, rfl, p, _, rfl, o6.g_used, _, rfl, uA, _, rfl, DPut.k (k := Sum.inl place) h6u (by unfold dki; rw [List.length_map]; exact szl (by show t.used.length < _; omega)), ?_⟩
    rw [put_dki]
    have o7 := o6.use (putI t.used place (t.clock + 1))
    have im7 := im6.trans (immD (u := .dK (dki (putI t.used place (t.clock + 1)))) o6.hu)
    generalize upd H6 uA (.dK (dki (putI t.used place (t.clock + 1)))) = H7 at o7 im7 ⊢
    have hat : atI (t.cells.map V.int) place = some (.int (t.cells.getD place.toNat 0)) := at_ps (i := place.toNat) (by omega) (by omega)
    have h7l : H7 lA = some (.dK (dki t.lies)) := o7.hl
    refine ⟨_, rfl, p, _, rfl, o7.g_cells, _, rfl, _, _, _, _, rfl, rfl, sql o7.hc, hat, _, rfl, p, _, rfl, o7.g_lies, _, rfl, lA, _, rfl, DPut.k (k := Sum.inl place) h7l (by unfold dki; rw [List.length_map]; exact szl (by show t.lies.length < _; omega)), ?_⟩
    rw [put_dki]
    have o8 := o7.lie (putI t.lies place (t.cells.getD place.toNat 0))
    have im8 := im7.trans (immD (u := .dK (dki (putI t.lies place (t.cells.getD place.toNat 0)))) o7.hl)
    generalize upd H7 lA (.dK (dki (putI t.lies place (t.cells.getD place.toNat 0)))) = H8 at o8 im8 ⊢
    obtain ⟨as, r1, r2⟩ := o8.hs
    have las : as.length = t.story.length := Paired.length r2
    refine ⟨_, rfl, p, _, rfl, o8.g_story, .inl ⟨rfl, _, sql r1⟩, ?_⟩
    and_intros
    intro p9 n9
    have o9 := o8.same (same_upd (o := .tup [.int turn, .str word, .int place]) n9)
    have r1' := same_upd (o := .tup [.int turn, .str word, .int place]) n9 _ _ r1
    and_intros
    refine ⟨_, _, _, rfl, rfl, r1', by rw [List.length_map]; exact szl (by omega), ?_⟩
    have oz := o9.stor r1' (r2.imm (Imm.same (same_upd n9))) (t := turn) (x := word) (r := place) (sqt upd_same)
    exact q5 wA' _ ((im8.trans (Imm.same (same_upd n9))).trans (Imm.upd ⟨_, r1'⟩)) oz
  by_cases c : ((s.lies.length : Nat) : Int) = room
  · have q' : ∀ wA' H', Imm H H' → LsO K H0 H' p cA uA wA' yA lA sA aA (inL turn place word (outL turn old s)) → Q .non H' := by
      have e : laidL room turn place word old s = inL turn place word (outL turn old s) := by unfold laidL; rw [if_pos c]
      rw [← e]
      exact q
    obtain ⟨ho, hmin⟩ := L.ol c
    refine iteB (decide_eq_true (by rw [ldk_, c])) ?_
    refine ⟨lA, _, o.hl, True.intro, fun od => ?_⟩
    have npl := o.pl
    have hL2 : (upd H lA (.frz od (.dK (dki s.lies)))) lA = some (.frz od (.dK (dki s.lies))) := upd_same
    have hP2 : DGet (upd H lA (.frz od (.dK (dki s.lies)))) p (.str "lies") (some (.ref lA)) := by
      have z := DGet.k (k := Sum.inr "lies") (H := upd H lA (.frz od (.dK (dki s.lies)))) (a := p) (by rw [upd_ne npl]; exact o.ob)
      rw [ld_lies] at z
      exact z
    have hU2 : DGet (upd H lA (.frz od (.dK (dki s.lies)))) p (.str "used") (some (.ref uA)) := by
      have z := DGet.k (k := Sum.inr "used") (H := upd H lA (.frz od (.dK (dki s.lies)))) (a := p) (by rw [upd_ne npl]; exact o.ob)
      rw [ld_used] at z
      exact z
    have hu2 : (upd H lA (.frz od (.dK (dki s.lies)))) uA = some (.dK (dki s.used)) := by rw [upd_ne o.ul]; exact o.hu
    refine ⟨_, rfl, p, _, rfl, hP2, ?_⟩
    refine ⟨lA, od, rfl, .inl ⟨_, hL2, fun D nD => ?_⟩⟩
    have nDl : D ≠ lA := (ne_of_none hL2 nD).symm
    have bk : ∀ {Hk : Hp}, Same (upd H lA (.frz od (.dK (dki s.lies)))) Hk → Same H (upd Hk lA (.dK (dki s.lies))) := fun {Hk} sm b u e => by
      by_cases cb : b = lA
      · subst cb
        rw [upd_same, ← e, o.hl]
      · rw [upd_ne cb]
        exact sm _ _ (by rw [upd_ne cb]; exact e)
    have hp2 : (upd H lA (.frz od (.dK (dki s.lies)))) p = some (.dK (ldk cA uA wA yA lA sA aA s.clock)) := by rw [upd_ne npl]; exact o.ob
    have nD0 : H D = none := by rw [upd_ne nDl] at nD; exact nD
    generalize upd H lA (.frz od (.dK (dki s.lies))) = H2 at hL2 hP2 hU2 hu2 nD bk hp2 ⊢
    have gP : ∀ {Hk : Hp}, Same H2 Hk → DGet Hk p (.str "lies") (some (.ref lA)) := fun {Hk} sm => by
      have z := DGet.k (k := Sum.inr "lies") (sm _ _ hp2)
      rw [ld_lies] at z
      exact z
    have gU : ∀ {Hk : Hp}, Same H2 Hk → DGet Hk p (.str "used") (some (.ref uA)) := fun {Hk} sm => by
      have z := DGet.k (k := Sum.inr "used") (sm _ _ hp2)
      rw [ld_used] at z
      exact z
    have gu : ∀ {Hk : Hp} {x : Int}, Same H2 Hk → x ∈ ks s.lies → DGet Hk uA (.int x) (some (.int (Us s x))) := fun {Hk x} sm hx => by
      have z := DGet.k (k := Sum.inl x) (sm _ _ hu2)
      obtain ⟨v, e⟩ := look_ks (L.us x hx)
      rw [val_dki, e] at z
      have : Us s x = v := by unfold Us; rw [e]; rfl
      rw [this]
      exact z
    have lks : (ks s.lies).length = s.lies.length := List.length_map _
    have z1 := L.z1
    refine lc_it walk_keys (fun i H' => Same H2 H' ∧ H' D = some (.lst ((((ks s.lies).take i).filter (fun e => decide (e = old))).map V.int))) ⟨same_upd nD, upd_same⟩ (fun i H' _ h => h.1 _ _ hL2) (fun i x H' H3 hi h y => ?_) (fun H' h => ?_)
    · obtain ⟨rfl, kk, vv, ek, rfl⟩ := y
      obtain ⟨one, rfl, e1, m1, tk⟩ := dki_at ek
      obtain ⟨sm, eD⟩ := h
      refine ⟨rfl, ?_⟩
      refine ⟨_, rfl, p, _, rfl, gU sm, _, rfl, uA, _, rfl, gu sm m1, ?_⟩
      refine ⟨_, rfl, p, _, rfl, gP sm, lA, od, rfl, .inl ⟨_, sm _ _ hL2, fun M nM => ?_⟩⟩
      refine lc_it walk_keys (fun j H4 => Same H3 H4 ∧ H4 M = some (.lst ((((ks s.lies).take j).map (Us s)).map V.int))) ⟨same_upd nM, upd_same⟩ (fun i H4 _ h => h.1 _ _ (sm _ _ hL2)) (fun j x H4 H5 hj h y => ?_) (fun H4 h => ?_)
      · obtain ⟨rfl, kk2, vv2, ek2, rfl⟩ := y
        obtain ⟨oth, rfl, e2, m2, tk2⟩ := dki_at ek2
        obtain ⟨sm2, eM⟩ := h
        refine ⟨rfl, ?_⟩
        refine ⟨_, rfl, p, _, rfl, gU (sm.trans sm2), _, rfl, uA, _, rfl, gu (sm.trans sm2) m2, ?_⟩
        refine ⟨_, eM, by rw [List.length_map, List.length_map, List.length_take]; exact szl (by omega), same_mut sm2 nM, ?_⟩
        rw [upd_same, tk2, List.map_append, List.map_append]
        rfl
      · obtain ⟨sm2, eM⟩ := h
        have eM : H4 M = some (.lst (((ks s.lies).map (Us s)).map V.int)) := by
          rw [show (ks s.lies).take (dki s.lies).length = ks s.lies by rw [ldk_, ← lks]; exact List.take_length] at eM
          exact eM
        refine ⟨M, (ks s.lies).map (Us s), rfl, sql eM, by rw [List.length_map]; exact List.length_pos_of_mem ho, fun m hm hmin2 => ?_⟩
        have em : m = Us s old := by
          obtain ⟨qq, hq, rfl⟩ := List.mem_map.mp hm
          have h1 := hmin2 (Us s old) (List.mem_map.mpr ⟨old, ho, rfl⟩)
          by_cases cq : qq = old
          · rw [cq]
          · have h2 := hmin qq hq cq
            omega
        have iff1 : (V.int (Us s one) = V.int m) ↔ one = old := by
          rw [em]
          constructor
          · intro z
            by_cases cq : one = old
            · exact cq
            · have h2 := hmin one m1 cq
              have := V.int.inj z
              omega
          · rintro rfl; rfl
        rw [tk, filter_snoc]
        and_intros
        by_cases co : one = old
        · refine iteB (decide_eq_true (iff1.mpr co)) ?_
          refine ⟨_, rfl, _, sm2 _ _ eD, by rw [List.length_map]; exact szl (Nat.lt_of_le_of_lt (List.length_filter_le _ _) (by rw [List.length_take]; omega)), same_mut (sm.trans sm2) nD, ?_⟩
          rw [upd_same, if_pos (by simp [co]), List.map_append]
          rfl
        · refine iteB0 (decide_eq_false fun z => co (iff1.mp z)) ?_
          rw [if_neg (by simp [co]), List.append_nil]
          exact ⟨sm.trans sm2, sm2 _ _ eD⟩
    · obtain ⟨sm, eD⟩ := h
      have eD : H' D = some (.lst [.int old]) := by
        rw [show (ks s.lies).take (dki s.lies).length = ks s.lies by rw [ldk_, ← lks]; exact List.take_length, filter_one L.nd ho] at eD
        exact eD
      refine ⟨sm _ _ hL2, ?_⟩
      have sH := bk sm
      have eD5 : (upd H' lA (.dK (dki s.lies))) D = some (.lst [.int old]) := by rw [upd_ne nDl]; exact eD
      have o5 := o.same sH
      generalize upd H' lA (.dK (dki s.lies)) = H5 at sH eD5 o5 ⊢
      obtain ⟨as, r1, r2⟩ := o5.hs
      have las : as.length = s.story.length := Paired.length r2
      and_intros
      refine ⟨p, _, rfl, o5.g_story, .inl ⟨rfl, _, sql r1⟩, ?_⟩
      and_intros
      refine ⟨p, _, rfl, o5.g_waits, ?_⟩
      refine ⟨wA, _, rfl, .inl (sql o5.hw), rfl, flat_ints _, ?_⟩
      rw [inV_ints]
      by_cases cw : old ∈ s.waits
      · rw [decide_eq_true cw]
        refine ⟨_, rfl, iteB rfl ?_⟩
        have eo : outL turn old s = { s with story := s.story ++ [(turn, ("waste" : Str), old)], waits := s.waits.filter (fun e => decide (e ≠ old)), lies := s.lies.filter (fun e => decide (e.1 ≠ old)) } := by unfold outL; rw [if_pos cw]
        rw [eo] at q'
        and_intros
        intro p6 n6
        have o6 := o5.same (same_upd (o := .tup [.int turn, .str "waste", .int old]) n6)
        have r1' := same_upd (o := .tup [.int turn, .str "waste", .int old]) n6 _ _ r1
        and_intros
        refine ⟨_, _, _, rfl, rfl, r1', by rw [List.length_map, las]; exact szl (Nat.lt_of_le_of_lt L.z4 (by decide)), ?_⟩
        have o7 := o6.stor r1' (r2.imm (Imm.same (same_upd n6))) (t := turn) (x := "waste") (r := old) (sqt upd_same)
        have im7 := ((Imm.same sH).trans (Imm.same (same_upd (o := .tup [.int turn, .str "waste", .int old]) n6))).trans (Imm.upd (o := .lst (as.map V.ref ++ [.ref p6])) ⟨_, r1'⟩)
        generalize upd (upd H5 p6 (.tup [.int turn, .str "waste", .int old])) sA (.lst (as.map V.ref ++ [.ref p6])) = H7 at o7 im7 ⊢
        and_intros
        refine ⟨p, _, rfl, o7.g_waits, ?_⟩
        have h7w : H7 wA = some (.lst (s.waits.map V.int)) := o7.hw
        refine ⟨wA, rfl, ⟨_, sql h7w⟩, fun E nE => ?_⟩
        refine lc_list (xs := s.waits.map V.int) (fun i H' => Same H7 H' ∧ H' E = some (.lst (((s.waits.take i).filter (fun e => decide (e ≠ old))).map V.int))) ⟨same_upd nE, upd_same⟩ (fun i H' _ h => sql (h.1 _ _ h7w)) (fun i y H' hi h => ?_) (fun H' h => ?_)
        · obtain ⟨m, rfl, em, tk⟩ := at_ints hi
          have z3 := L.z3
          rw [tk, filter_snoc]
          and_intros
          by_cases cm : m = old
          · refine iteB0 (by rw [decide_eq_true (congrArg V.int cm)]; rfl) ?_
            rw [if_neg (by simp [cm]), List.append_nil]
            exact h
          · refine iteB (by rw [decide_eq_false fun z => cm (V.int.inj z)]; rfl) ?_
            refine ⟨_, rfl, _, h.2, by rw [List.length_map]; exact szl (Nat.lt_of_le_of_lt (List.length_filter_le _ _) (by rw [List.length_take]; omega)), same_mut h.1 nE, ?_⟩
            rw [upd_same, if_pos (by simp [cm]), List.map_append]
            rfl
        · obtain ⟨sm7, eE⟩ := h
          have eE : H' E = some (.lst ((s.waits.filter (fun e => decide (e ≠ old))).map V.int)) := by
            rw [show s.waits.take (s.waits.map V.int).length = s.waits by rw [List.length_map]; exact List.take_length] at eE
            exact eE
          have o8 := o7.same sm7
          refine ⟨_, rfl, p, _, rfl, DPut.k (k := Sum.inr "waits") o8.ob (by show 8 < sizeLine; decide), ?_⟩
          rw [pd_waits]
          have o9 := o7.waiN sm7 nE eE
          have im9 := (im7.trans (Imm.same sm7)).trans (immD (u := .dK (ldk cA uA E yA lA sA aA s.clock)) o8.ob)
          have o9 : LsO K H0 (upd H' p (.dK (ldk cA uA E yA lA sA aA s.clock))) p cA uA E yA lA sA aA { s with story := s.story ++ [(turn, ("waste" : Str), old)], waits := s.waits.filter (fun e => decide (e ≠ old)) } := o9
          generalize upd H' p (.dK (ldk cA uA E yA lA sA aA s.clock)) = H9 at o9 im9 ⊢
          have h9l : H9 lA = some (.dK (dki s.lies)) := o9.hl
          obtain ⟨pv, pe⟩ := look_ks ho
          refine ⟨_, rfl, p, _, rfl, o9.g_lies, lA, rfl, .inl ⟨_, .inl h9l⟩, _, rfl, _, Sum.inl old, _, h9l, rfl, by rw [val_dki, pe]; rfl, ?_⟩
          rw [drop_dki]
          have oz := o9.lie (s.lies.filter (fun e => decide (e.1 ≠ old)))
          exact fin _ E _ _ oz (im9.trans (immD h9l)) (Nat.le_trans (List.length_filter_le _ _) L.z1) L.z2 (by show (s.story ++ [_]).length ≤ _; rw [List.length_append]; exact Nat.succ_le_succ L.z4) L.pl q'
      · rw [decide_eq_false cw]
        refine ⟨_, rfl, iteB0 rfl ?_⟩
        have eo : outL turn old s = { s with story := s.story ++ [(turn, ("leave" : Str), old)], waits := s.waits.filter (fun e => decide (e ≠ old)), lies := s.lies.filter (fun e => decide (e.1 ≠ old)) } := by unfold outL; rw [if_neg cw]
        rw [eo] at q'
        and_intros
        intro p6 n6
        have o6 := o5.same (same_upd (o := .tup [.int turn, .str "leave", .int old]) n6)
        have r1' := same_upd (o := .tup [.int turn, .str "leave", .int old]) n6 _ _ r1
        and_intros
        refine ⟨_, _, _, rfl, rfl, r1', by rw [List.length_map, las]; exact szl (Nat.lt_of_le_of_lt L.z4 (by decide)), ?_⟩
        have o7 := o6.stor r1' (r2.imm (Imm.same (same_upd n6))) (t := turn) (x := "leave") (r := old) (sqt upd_same)
        have im7 := ((Imm.same sH).trans (Imm.same (same_upd (o := .tup [.int turn, .str "leave", .int old]) n6))).trans (Imm.upd (o := .lst (as.map V.ref ++ [.ref p6])) ⟨_, r1'⟩)
        generalize upd (upd H5 p6 (.tup [.int turn, .str "leave", .int old])) sA (.lst (as.map V.ref ++ [.ref p6])) = H7 at o7 im7 ⊢
        and_intros
        refine ⟨p, _, rfl, o7.g_waits, ?_⟩
        have h7w : H7 wA = some (.lst (s.waits.map V.int)) := o7.hw
        refine ⟨wA, rfl, ⟨_, sql h7w⟩, fun E nE => ?_⟩
        refine lc_list (xs := s.waits.map V.int) (fun i H' => Same H7 H' ∧ H' E = some (.lst (((s.waits.take i).filter (fun e => decide (e ≠ old))).map V.int))) ⟨same_upd nE, upd_same⟩ (fun i H' _ h => sql (h.1 _ _ h7w)) (fun i y H' hi h => ?_) (fun H' h => ?_)
        · obtain ⟨m, rfl, em, tk⟩ := at_ints hi
          have z3 := L.z3
          rw [tk, filter_snoc]
          and_intros
          by_cases cm : m = old
          · refine iteB0 (by rw [decide_eq_true (congrArg V.int cm)]; rfl) ?_
            rw [if_neg (by simp [cm]), List.append_nil]
            exact h
          · refine iteB (by rw [decide_eq_false fun z => cm (V.int.inj z)]; rfl) ?_
            refine ⟨_, rfl, _, h.2, by rw [List.length_map]; exact szl (Nat.lt_of_le_of_lt (List.length_filter_le _ _) (by rw [List.length_take]; omega)), same_mut h.1 nE, ?_⟩
            rw [upd_same, if_pos (by simp [cm]), List.map_append]
            rfl
        · obtain ⟨sm7, eE⟩ := h
          have eE : H' E = some (.lst ((s.waits.filter (fun e => decide (e ≠ old))).map V.int)) := by
            rw [show s.waits.take (s.waits.map V.int).length = s.waits by rw [List.length_map]; exact List.take_length] at eE
            exact eE
          have o8 := o7.same sm7
          refine ⟨_, rfl, p, _, rfl, DPut.k (k := Sum.inr "waits") o8.ob (by show 8 < sizeLine; decide), ?_⟩
          rw [pd_waits]
          have o9 := o7.waiN sm7 nE eE
          have im9 := (im7.trans (Imm.same sm7)).trans (immD (u := .dK (ldk cA uA E yA lA sA aA s.clock)) o8.ob)
          have o9 : LsO K H0 (upd H' p (.dK (ldk cA uA E yA lA sA aA s.clock))) p cA uA E yA lA sA aA { s with story := s.story ++ [(turn, ("leave" : Str), old)], waits := s.waits.filter (fun e => decide (e ≠ old)) } := o9
          generalize upd H' p (.dK (ldk cA uA E yA lA sA aA s.clock)) = H9 at o9 im9 ⊢
          have h9l : H9 lA = some (.dK (dki s.lies)) := o9.hl
          obtain ⟨pv, pe⟩ := look_ks ho
          refine ⟨_, rfl, p, _, rfl, o9.g_lies, lA, rfl, .inl ⟨_, .inl h9l⟩, _, rfl, _, Sum.inl old, _, h9l, rfl, by rw [val_dki, pe]; rfl, ?_⟩
          rw [drop_dki]
          have oz := o9.lie (s.lies.filter (fun e => decide (e.1 ≠ old)))
          exact fin _ E _ _ oz (im9.trans (immD h9l)) (Nat.le_trans (List.length_filter_le _ _) L.z1) L.z2 (by show (s.story ++ [_]).length ≤ _; rw [List.length_append]; exact Nat.succ_le_succ L.z4) L.pl q'
  · have q' : ∀ wA' H', Imm H H' → LsO K H0 H' p cA uA wA' yA lA sA aA (inL turn place word s) → Q .non H' := by
      have e : laidL room turn place word old s = inL turn place word s := by unfold laidL; rw [if_neg c]
      rw [← e]
      exact q
    refine iteB0 (decide_eq_false fun z => c (by rw [← ldk_]; exact V.int.inj z)) ?_
    exact fin s wA H none o (Imm.refl _) L.z1 L.z2 (Nat.le_succ_of_le L.z4) L.pl q'
end
end St

namespace St
open PySem PySem.Spec PyProof.Rows L2
abbrev s__law_asked : Stmt := topS 49
abbrev N__law_asked : List Str := ["_law_s", "_law_room", "_law_turn", "_law_place", "_law_rest", "_law_word", "_law_pair", "_law_one"]
abbrev p__law_asked : List Str := ["_law_s", "_law_room", "_law_turn", "_law_place"]
theorem sc__law_asked : FnScope N__law_asked p__law_asked (defScope s__law_asked) := ⟨rfl, rfl, rfl, by decide +kernel, rfl, by decide +kernel, by decide +kernel⟩
def askedL (room turn place old : Int) (s : LS) : LS :=
  if place ∈ ks s.lies then { s with clock := s.clock + 1, used := putI s.used place (s.clock + 1), story := s.story ++ [(turn, (if place ∈ s.waits then "first" else "hit" : Str), place)], waits := s.waits.filter (fun e => decide (e ≠ place)) }
  else laidL room turn place (if (s.way.filter fun e => decide (e.1 ≠ place)).length = s.way.length then "miss" else "late" : Str) old { s with way := s.way.filter fun e => decide (e.1 ≠ place) }
theorem look_none {k : Int} : ∀ {l : List (Int × Int)}, k ∉ ks l → l.lookup k = none
  | [], _ => rfl
  | (a, b) :: r, h => by
    have h1 : k ≠ a := fun z => h (z ▸ List.mem_cons_self ..)
    have : (k == a) = false := beq_eq_false_iff_ne.mpr h1
    rw [List.lookup_cons, this]
    exact look_none fun z => h (List.mem_cons_of_mem _ z)
section
variable {P : Program} {w : World} {K : PySem.W.Frag} {mg : Str → Option Value} {base : Heap} {f f1 : Addr} {fd fd1 : FuncData}
def spLA (K : PySem.W.Frag) : Sp := fun vs H Q _ => ∃ (p cA uA wA yA lA sA aA : Addr) (s : LS) (H0 : Hp) (room turn place old : Int), vs = [.ref p, .int room, .int turn, .int place] ∧ LsO K H0 H p cA uA wA yA lA sA aA s ∧ s.way.length ≤ 10000 ∧ s.waits.length ≤ 10000 ∧ s.used.length ≤ 10000 ∧ s.story.length ≤ 100000 ∧
  (place ∉ ks s.lies → LaidOk room place old s) ∧ ∀ wA' yA' H', Imm H H' → LsO K H0 H' p cA uA wA' yA' lA sA aA (askedL room turn place old s) → Q .non H'
theorem ok__law_asked (T : Nms mg) (D__law_laid : Df K mg "_law_laid" s__law_laid p__law_laid f1 fd1) (F : Fun K "_law_asked" "_law_asked" s__law_asked f fd) : FnOk P w K mg base CX0 2 f fd p__law_asked (spLA K) := by
  have G__law_laid : FnOk P w K mg base CX0 1 f1 fd1 p__law_laid (spLL K) := ok__law_laid T D__law_laid.F
  refine F.ok sc__law_asked (fun vs H Q E h => ?_) (fun cdv A outer s H vs Q E hr h => ?_)
  · obtain ⟨p, cA, uA, wA, yA, lA, sA, aA, s, H0, room, turn, place, old, rfl, _⟩ := h
    rfl
  obtain ⟨p, cA, uA, wA, yA, lA, sA, aA, s, H0, room, turn, place, old, rfl, o, z1, z3, z2, z4, L, q⟩ := h
  refine ⟨_, (pss_cons (ps_if (pt_cmp (pc_din (hu_of hr) (pv 3) (pe_dget (hu_of hr) (pv 0) pe_str (fun _ _ => rfl))) rfl)
    (pss_cons (ps_dput (hu_of hr) (pv 0) pe_str (pe_op op_add (pe_dget (hu_of hr) (pv 0) pe_str (fun _ _ => rfl)) pe_int) rfl)
    (pss_cons (ps_dput (hu_of hr) (pe_dget (hu_of hr) (pv 0) pe_str (fun _ _ => rfl)) (pv 3) (pe_dget (hu_of hr) (pv 0) pe_str (fun _ _ => rfl)) rfl)
    (pss_cons (ps_expr (pe_bm PySem.F.plainAttrs_list PySem.F.slot_list_append PySem.F.type_list_append mt_append (pe_dget (hu_of hr) (pv 0) pe_str (fun _ _ => rfl)) (pa_cons (pe_tup (pa_cons (pv 2) (pa_cons (pe_ifExp (pt_cmpR op_in_seq (pv 3) (pe_dget (hu_of hr) (pv 0) pe_str (fun _ _ => rfl)) (by with_unfolding_all rfl)) pe_str pe_str) (pa_cons (pv 3) pa_nil)))) pa_nil)))
    (pss_cons (ps_dput (hu_of hr) (pv 0) pe_str (pe_lc (own := [("_law_one", 7)]) (g := gName 7) rfl sc__law_asked.nd (pi_list (pe_dget (hu_of hr) (pv 0) pe_str (fun _ _ => rfl))) (blkOk_by (own := [("_law_one", 7)]) (N := N__law_asked) (sc := defScope s__law_asked) (by decide +kernel)) (fun _ _ _ _ _ => pg_name (i := 7) sc__law_asked.nd rfl (Or.inl rfl)) (fun _ _ _ _ _ => pts_one (pt_cmpR op_ne (pv 7) (pv 3) (nomark _))) (fun _ _ _ _ _ => (pv 7))) rfl)
    (pss_one (ps_retN))))))
    (pss_nil))
  (pss_cons (ps_setLc (i := 4) (own := [("_law_pair", 6)]) (g := gName 6) rfl sc__law_asked.nd rfl rfl (sw_true rfl rfl rfl (by decide +kernel)) (pi_list (pe_dget (hu_of hr) (pv 0) pe_str (fun _ _ => rfl))) (blkOk_by (own := [("_law_pair", 6)]) (N := N__law_asked) (sc := defScope s__law_asked) (by decide +kernel)) (fun _ _ _ _ _ => pg_name (i := 6) sc__law_asked.nd rfl (Or.inl rfl)) (fun _ _ _ _ _ => pts_one (pt_cmpR op_ne (pe_ix (ix_tupK (K := K)) (pv 6) pe_int (fun _ _ => rfl)) (pv 3) (nomark _))) (fun _ _ _ _ _ => (pv 6)))
  (pss_cons (ps_set (i := 5) sc__law_asked.nd rfl (Or.inl rfl) (pe_ifExp (pt_cmpR op_eq (pe_callB call_len_seq (by rfl) T.n_len (by decide +kernel) (pa_cons (pv 4) pa_nil)) (pe_callB call_len_seq (by rfl) T.n_len (by decide +kernel) (pa_cons (pe_dget (hu_of hr) (pv 0) pe_str (fun _ _ => rfl)) pa_nil)) (nomark _)) pe_str pe_str))
  (pss_cons (ps_dput (hu_of hr) (pv 0) pe_str (pv 4) rfl)
  (pss_one (ps_expr (pe_call G__law_laid (hr.mono (by first | decide | omega)) (by rfl) D__law_laid.m D__law_laid.F.kp D__law_laid.b .nil pass0 (pa_cons (pv 0) (pa_cons (pv 1) (pa_cons (pv 2) (pa_cons (pv 3) (pa_cons (pv 5) pa_nil)))))))))))), ?_⟩
  refine ⟨_, rfl, _, rfl, p, _, rfl, o.g_lies, lA, _, rfl, DGet.k (k := Sum.inl place) o.hl, ?_⟩
  rw [val_dki]
  by_cases c : place ∈ ks s.lies
  · obtain ⟨pv, pe⟩ := look_ks c
    rw [pe]
    and_intros
    refine ⟨p, _, rfl, o.g_clock, _, _, rfl, rfl, _, rfl, p, _, rfl, DPut.k (k := Sum.inr "clock") o.ob (by show 8 < sizeLine; decide), ?_⟩
    rw [pd_clock]
    have o6 := o.clk (s.clock + 1)
    have im6 : Imm H (upd H p (.dK (ldk cA uA wA yA lA sA aA (s.clock + 1)))) := immD o.ob
    generalize upd H p (.dK (ldk cA uA wA yA lA sA aA (s.clock + 1))) = H6 at o6 im6 ⊢
    have h6u : H6 uA = some (.dK (dki s.used)) := o6.hu
    refine ⟨_, rfl, p, _, rfl, o6.g_clock, _, rfl, p, _, rfl, o6.g_used, _, rfl, uA, _, rfl, DPut.k (k := Sum.inl place) h6u (by unfold dki; rw [List.length_map]; exact szl (by omega)), ?_⟩
    rw [put_dki]
    have o7 := o6.use (putI s.used place (s.clock + 1))
    have im7 := im6.trans (immD (u := .dK (dki (putI s.used place (s.clock + 1)))) o6.hu)
    have o7 : LsO K H0 (upd H6 uA (.dK (dki (putI s.used place (s.clock + 1))))) p cA uA wA yA lA sA aA { s with clock := s.clock + 1, used := putI s.used place (s.clock + 1) } := o7
    generalize upd H6 uA (.dK (dki (putI s.used place (s.clock + 1)))) = H7 at o7 im7 ⊢
    obtain ⟨as, r1, r2⟩ := o7.hs
    have r2 : PrR K H7 as s.story := r2
    have las : as.length = s.story.length := Paired.length r2
    have h7w : H7 wA = some (.lst (s.waits.map V.int)) := o7.hw
    refine ⟨_, rfl, p, _, rfl, o7.g_story, .inl ⟨rfl, _, sql r1⟩, ?_⟩
    and_intros
    refine ⟨p, _, rfl, o7.g_waits, ?_⟩
    refine ⟨wA, _, rfl, .inl (sql h7w), rfl, flat_ints _, ?_⟩
    rw [inV_ints]
    by_cases cw : place ∈ s.waits
    · rw [decide_eq_true cw]
      refine ⟨_, rfl, iteB rfl ?_⟩
      have eo : askedL room turn place old s = { s with clock := s.clock + 1, used := putI s.used place (s.clock + 1), story := s.story ++ [(turn, ("first" : Str), place)], waits := s.waits.filter (fun e => decide (e ≠ place)) } := by unfold askedL; rw [if_pos c, if_pos cw]
      rw [eo] at q
      and_intros
      intro p6 n6
      have o8 := o7.same (same_upd (o := .tup [.int turn, .str "first", .int place]) n6)
      have r1' := same_upd (o := .tup [.int turn, .str "first", .int place]) n6 _ _ r1
      and_intros
      refine ⟨_, _, _, rfl, rfl, r1', by rw [List.length_map, las]; exact szl (Nat.lt_of_le_of_lt z4 (by decide)), ?_⟩
      have o9 := o8.stor r1' (r2.imm (Imm.same (same_upd n6))) (t := turn) (x := "first") (r := place) (sqt upd_same)
      have im9 := (im7.trans (Imm.same (same_upd (o := .tup [.int turn, .str "first", .int place]) n6))).trans (Imm.upd (o := .lst (as.map V.ref ++ [.ref p6])) ⟨_, r1'⟩)
      generalize upd (upd H7 p6 (.tup [.int turn, .str "first", .int place])) sA (.lst (as.map V.ref ++ [.ref p6])) = H9 at o9 im9 ⊢
      and_intros
      refine ⟨p, _, rfl, o9.g_waits, ?_⟩
      have h9w : H9 wA = some (.lst (s.waits.map V.int)) := o9.hw
      refine ⟨wA, rfl, ⟨_, sql h9w⟩, fun E nE => ?_⟩
      refine lc_list (xs := s.waits.map V.int) (fun i H' => Same H9 H' ∧ H' E = some (.lst (((s.waits.take i).filter (fun e => decide (e ≠ place))).map V.int))) ⟨same_upd nE, upd_same⟩ (fun i H' _ h => sql (h.1 _ _ h9w)) (fun i y H' hi h => ?_) (fun H' h => ?_)
      · obtain ⟨m, rfl, em, tk⟩ := at_ints hi
        rw [tk, filter_snoc]
        and_intros
        by_cases cm : m = place
        · refine iteB0 (by rw [decide_eq_true (congrArg V.int cm)]; rfl) ?_
          rw [if_neg (by simp [cm]), List.append_nil]
          exact h
        · refine iteB (by rw [decide_eq_false fun z => cm (V.int.inj z)]; rfl) ?_
          refine ⟨_, rfl, _, h.2, by rw [List.length_map]; exact szl (Nat.lt_of_le_of_lt (List.length_filter_le _ _) (by rw [List.length_take]; omega)), same_mut h.1 nE, ?_⟩
          rw [upd_same, if_pos (by simp [cm]), List.map_append]
          rfl
      · obtain ⟨sm, eE⟩ := h
        have eE : H' E = some (.lst ((s.waits.filter (fun e => decide (e ≠ place))).map V.int)) := by
          rw [show s.waits.take (s.waits.map V.int).length = s.waits by rw [List.length_map]; exact List.take_length] at eE
          exact eE
        have oa := o9.same sm
        refine ⟨_, rfl, p, _, rfl, DPut.k (k := Sum.inr "waits") oa.ob (by show 8 < sizeLine; decide), ?_⟩
        rw [pd_waits]
        have ob := o9.waiN sm nE eE
        exact q E yA _ ((im9.trans (Imm.same sm)).trans (immD oa.ob)) ob
    · rw [decide_eq_false cw]
      refine ⟨_, rfl, iteB0 rfl ?_⟩
      have eo : askedL room turn place old s = { s with clock := s.clock + 1, used := putI s.used place (s.clock + 1), story := s.story ++ [(turn, ("hit" : Str), place)], waits := s.waits.filter (fun e => decide (e ≠ place)) } := by unfold askedL; rw [if_pos c, if_neg cw]
      rw [eo] at q
      and_intros
      intro p6 n6
      have o8 := o7.same (same_upd (o := .tup [.int turn, .str "hit", .int place]) n6)
      have r1' := same_upd (o := .tup [.int turn, .str "hit", .int place]) n6 _ _ r1
      and_intros
      refine ⟨_, _, _, rfl, rfl, r1', by rw [List.length_map, las]; exact szl (Nat.lt_of_le_of_lt z4 (by decide)), ?_⟩
      have o9 := o8.stor r1' (r2.imm (Imm.same (same_upd n6))) (t := turn) (x := "hit") (r := place) (sqt upd_same)
      have im9 := (im7.trans (Imm.same (same_upd (o := .tup [.int turn, .str "hit", .int place]) n6))).trans (Imm.upd (o := .lst (as.map V.ref ++ [.ref p6])) ⟨_, r1'⟩)
      generalize upd (upd H7 p6 (.tup [.int turn, .str "hit", .int place])) sA (.lst (as.map V.ref ++ [.ref p6])) = H9 at o9 im9 ⊢
      and_intros
      refine ⟨p, _, rfl, o9.g_waits, ?_⟩
      have h9w : H9 wA = some (.lst (s.waits.map V.int)) := o9.hw
      refine ⟨wA, rfl, ⟨_, sql h9w⟩, fun E nE => ?_⟩
      refine lc_list (xs := s.waits.map V.int) (fun i H' => Same H9 H' ∧ H' E = some (.lst (((s.waits.take i).filter (fun e => decide (e ≠ place))).map V.int))) ⟨same_upd nE, upd_same⟩ (fun i H' _ h => sql (h.1 _ _ h9w)) (fun i y H' hi h => ?_) (fun H' h => ?_)
      · obtain ⟨m, rfl, em, tk⟩ := at_ints hi
        rw [tk, filter_snoc]
        and_intros
        by_cases cm : m = place
        · refine iteB0 (by rw [decide_eq_true (congrArg V.int cm)]; rfl) ?_
          rw [if_neg (by simp [cm]), List.append_nil]
          exact h
        · refine iteB (by rw [decide_eq_false fun z => cm (V.int.inj z)]; rfl) ?_
          refine ⟨_, rfl, _, h.2, by rw [List.length_map]; exact szl (Nat.lt_of_le_of_lt (List.length_filter_le _ _) (by rw [List.length_take]; omega)), same_mut h.1 nE, ?_⟩
          rw [upd_same, if_pos (by simp [cm]), List.map_append]
          rfl
      · obtain ⟨sm, eE⟩ := h
        have eE : H' E = some (.lst ((s.waits.filter (fun e => decide (e ≠ place))).map V.int)) := by
          rw [show s.waits.take (s.waits.map V.int).length = s.waits by rw [List.length_map]; exact List.take_length] at eE
          exact eE
        have oa := o9.same sm
        refine ⟨_, rfl, p, _, rfl, DPut.k (k := Sum.inr "waits") oa.ob (by show 8 < sizeLine; decide), ?_⟩
        rw [pd_waits]
        have ob := o9.waiN sm nE eE
        exact q E yA _ ((im9.trans (Imm.same sm)).trans (immD oa.ob)) ob
  · rw [look_none c]
    and_intros
    refine ⟨p, _, rfl, o.g_way, ?_⟩
    obtain ⟨ys, y1, y2⟩ := o.hy
    have lys : ys.length = s.way.length := Paired.length y2
    have L' : LaidOk room place old { s with way := s.way.filter fun e => decide (e.1 ≠ place) } := ⟨(L c).pl, (L c).us, (L c).nd, (L c).ol, (L c).z1, (L c).z2, (L c).z3, (L c).z4⟩
    refine ⟨yA, rfl, ⟨_, sql y1⟩, fun E nE => ?_⟩
    refine lc_list (xs := ys.map V.ref) (fun i H' => Same H H' ∧ ∃ cs : List Addr, H' E = some (.lst (cs.map V.ref)) ∧ PrW K H' cs ((s.way.take i).filter (fun e => decide (e.1 ≠ place)))) ⟨same_upd nE, [], upd_same, .nil⟩ (fun i H' _ h => sql (h.1 _ _ y1)) (fun i y H' hi h => ?_) (fun H' h => ?_)
    · obtain ⟨s3, cs, eD, pc⟩ := h
      obtain ⟨u2, oo, rfl, hu2, tk2, eg2⟩ := pr_at (y2.imm (Imm.same s3)) hi
      obtain ⟨o1, o2⟩ := oo
      have hu2 : SqT K H' u2 [.int o1, .int o2] := hu2
      and_intros
      rw [tk2, filter_snoc]
      by_cases co : o1 = place
      · refine iteB0 (by rw [decide_eq_true (congrArg V.int co)]; rfl) ?_
        rw [if_neg (by simp [co]), List.append_nil]
        exact ⟨s3, cs, eD, pc⟩
      · refine iteB (by rw [decide_eq_false fun z => co (V.int.inj z)]; rfl) ?_
        have lc : cs.length ≤ s.way.length := by
          rw [Paired.length pc]
          refine Nat.le_trans (List.length_filter_le _ _) ?_
          rw [List.length_take]
          exact Nat.min_le_right _ _
        refine ⟨_, rfl, _, eD, by rw [List.length_map]; exact szl (by omega), same_mut s3 nE, cs ++ [u2], by rw [upd_same, List.map_append]; rfl, ?_⟩
        rw [if_pos (by simp [co])]
        exact Paired.snoc (pc.imm (Imm.upd ⟨_, eD⟩)) ((Imm.upd ⟨_, eD⟩).t hu2)
    · obtain ⟨s3, cs, eD, pc⟩ := h
      rw [show s.way.take (ys.map V.ref).length = s.way by rw [List.length_map, lys]; exact List.take_length] at pc
      have lcs : cs.length = (s.way.filter (fun e => decide (e.1 ≠ place))).length := Paired.length pc
      have o8 := o.same s3
      have o9 := o.wayN s3 nE ⟨cs, eD, pc⟩
      have im9 : Imm H (upd H' p (.dK (ldk cA uA wA E lA sA aA s.clock))) := (Imm.same s3).trans (immD o8.ob)
      have g8 := o8.g_way
      obtain ⟨ys8, y81, y82⟩ := o8.hy
      have lys8 : ys8.length = s.way.length := Paired.length y82
      and_intros
      refine ⟨p, _, rfl, g8, ?_⟩
      and_intros
      have lcm : (V.int ((cs.map V.ref).length : Nat) = V.int ((ys8.map V.ref).length : Nat)) ↔ (s.way.filter (fun e => decide (e.1 ≠ place))).length = s.way.length := by
        rw [List.length_map, List.length_map, lcs, lys8]
        exact ⟨fun z => Int.ofNat.inj (V.int.inj z), fun z => by rw [z]⟩
      by_cases cm : (s.way.filter (fun e => decide (e.1 ≠ place))).length = s.way.length
      · refine iteB (decide_eq_true (lcm.mpr cm)) ?_
        have eo : askedL room turn place old s = laidL room turn place "miss" old { s with way := s.way.filter fun e => decide (e.1 ≠ place) } := by unfold askedL; rw [if_neg c, if_pos cm]
        rw [eo] at q
        and_intros
        refine ⟨p, _, rfl, DPut.k (k := Sum.inr "way") o8.ob (by show 8 < sizeLine; decide), ?_⟩
        rw [pd_way]
        generalize upd H' p (.dK (ldk cA uA wA E lA sA aA s.clock)) = H9 at o9 im9 ⊢
        and_intros
        refine ⟨p, cA, uA, wA, E, lA, sA, aA, _, H0, room, turn, place, old, _, rfl, o9, L', fun wA' H10 im10 o10 => ?_⟩
        and_intros
        exact q wA' E _ (im9.trans im10) o10
      · refine iteB0 (decide_eq_false fun z => cm (lcm.mp z)) ?_
        have eo : askedL room turn place old s = laidL room turn place "late" old { s with way := s.way.filter fun e => decide (e.1 ≠ place) } := by unfold askedL; rw [if_neg c, if_neg cm]
        rw [eo] at q
        and_intros
        refine ⟨p, _, rfl, DPut.k (k := Sum.inr "way") o8.ob (by show 8 < sizeLine; decide), ?_⟩
        rw [pd_way]
        generalize upd H' p (.dK (ldk cA uA wA E lA sA aA s.clock)) = H9 at o9 im9 ⊢
        and_intros
        refine ⟨p, cA, uA, wA, E, lA, sA, aA, _, H0, room, turn, place, old, _, rfl, o9, L', fun wA' H10 im10 o10 => ?_⟩
        and_intros
        exact q wA' E _ (im9.trans im10) o10
end
end St

namespace St
open PySem PySem.Spec PyProof.Rows L2
/-! ### the law's run is like the program's -/
/-- the one used longest ago -/
def oldL (s : LS) : Int := ((ks s.lies).find? fun q => (ks s.lies).all fun r => decide (Us s q ≤ Us s r)).getD 0
structure RelS (sh : Shelf) (L : LS) : Prop where
  nd : (ks sh).Nodup
  kk : ∀ q, q ∈ ks L.lies ↔ q ∈ ks sh
  nl : (ks L.lies).Nodup
  us : ∀ q ∈ ks L.lies, q ∈ ks L.used
  or : (ks sh).Pairwise fun a b => Us L a < Us L b
  ub : ∀ q ∈ ks sh, Us L q ≤ L.clock
  fl : ∀ e ∈ sh, e.2 = true ↔ e.1 ∈ L.waits
  wk : ∀ q ∈ L.waits, q ∈ ks sh
theorem RelS.len {sh : Shelf} {L : LS} (R : RelS sh L) : L.lies.length = sh.length := by
  have pm : (ks L.lies).Perm (ks sh) := (List.perm_ext_iff_of_nodup R.nl R.nd).mpr R.kk
  have := pm.length_eq
  unfold ks at this
  rw [List.length_map, List.length_map] at this
  exact this
theorem RelS.old {e : Int × Bool} {t : Shelf} {L : LS} (R : RelS (e :: t) L) : oldL L = e.1 ∧ e.1 ∈ ks L.lies ∧ ∀ q ∈ ks L.lies, q ≠ e.1 → Us L e.1 < Us L q := by
  have h1 : e.1 ∈ ks L.lies := (R.kk _).mpr (List.mem_cons_self ..)
  have or : (e.1 :: ks t).Pairwise fun a b => Us L a < Us L b := R.or
  rw [List.pairwise_cons] at or
  have h2 : ∀ q ∈ ks L.lies, q ≠ e.1 → Us L e.1 < Us L q := fun q hq n => by
    rcases List.mem_cons.mp ((R.kk q).mp hq) with h | h
    · exact absurd h n
    · exact or.1 q h
  refine ⟨?_, h1, h2⟩
  unfold oldL
  cases f : (ks L.lies).find? fun q => (ks L.lies).all fun r => decide (Us L q ≤ Us L r) with
  | none =>
    have := List.find?_eq_none.mp f e.1 h1
    exfalso
    apply this
    rw [List.all_eq_true]
    intro r hr
    refine decide_eq_true ?_
    by_cases c : r = e.1
    · rw [c]; exact Int.le_refl _
    · exact Int.le_of_lt (h2 r hr c)
  | some q =>
    have hq := List.mem_of_find?_eq_some f
    have ha := List.find?_some f
    rw [List.all_eq_true] at ha
    have := of_decide_eq_true (ha e.1 h1)
    show q = e.1
    by_cases c : q = e.1
    · exact c
    · have := h2 q hq c
      omega
theorem lookup_putI {l : List (Int × Int)} {k v q : Int} : (putI l k v).lookup q = if q = k then some v else l.lookup q := by
  unfold putI
  by_cases c : (l.any fun e => decide (e.1 = k)) = true
  · rw [if_pos c]
    induction l with
    | nil => simp at c
    | cons a r ih =>
      obtain ⟨x, y⟩ := a
      rw [List.map_cons]
      by_cases d : x = k
      · subst d
        rw [if_pos rfl]
        by_cases e : q = x
        · subst e; simp [List.lookup]
        · have : (q == x) = false := beq_eq_false_iff_ne.mpr e
          rw [List.lookup_cons, this, if_neg e, List.lookup_cons, this]
          by_cases c2 : (r.any fun e => decide (e.1 = x)) = true
          · have := ih c2
            rw [if_neg e] at this
            exact this
          · have : r.map (fun e => if e.1 = x then (e.1, v) else e) = r := by
              refine (List.map_congr_left fun e he => ?_).trans (List.map_id r)
              rw [if_neg]
              · rfl
              · intro z
                exact c2 (List.any_eq_true.mpr ⟨e, he, decide_eq_true z⟩)
            rw [this]
      · rw [if_neg d]
        have c2 : (r.any fun e => decide (e.1 = k)) = true := by
          rw [List.any_cons] at c
          simpa [d] using c
        have := ih c2
        by_cases e : q = x
        · subst e
          rw [if_neg d]
          simp [List.lookup]
        · have h : (q == x) = false := beq_eq_false_iff_ne.mpr e
          rw [List.lookup_cons, h, List.lookup_cons, h]
          exact this
  · rw [if_neg c]
    have nk : k ∉ ks l := fun z => by
      obtain ⟨x, hx, ex⟩ := List.mem_map.mp z
      exact c (List.any_eq_true.mpr ⟨x, hx, decide_eq_true ex⟩)
    by_cases e : q = k
    · subst e
      rw [if_pos rfl, List.lookup_append, look_none nk]
      simp [List.lookup]
    · rw [if_neg e, List.lookup_append]
      have h : (q == k) = false := beq_eq_false_iff_ne.mpr e
      cases f : l.lookup q with
      | none => simp [List.lookup, h]
      | some v => rfl
theorem nd_putI {l : List (Int × Int)} {k v : Int} (h : (ks l).Nodup) : (ks (putI l k v)).Nodup := by
  unfold putI
  split
  · have e : ks (l.map fun e => if e.1 = k then (e.1, v) else e) = ks l := by
      unfold ks
      rw [List.map_map]
      refine List.map_congr_left fun e _ => ?_
      show (if e.1 = k then (e.1, v) else e).1 = e.1
      split <;> rfl
    rw [e]
    exact h
  · rename_i c
    have e : ks (l ++ [(k, v)]) = ks l ++ [k] := by simp [ks]
    rw [e, List.nodup_append]
    refine ⟨h, by simp, fun a ha b hb => ?_⟩
    rw [List.mem_singleton.mp hb]
    rintro rfl
    obtain ⟨x, hx, ex⟩ := List.mem_map.mp ha
    exact c (List.any_eq_true.mpr ⟨x, hx, decide_eq_true ex⟩)
/-- place comes onto the shelf, put behind all others -/
theorem RelS.put {sh : Shelf} {L : LS} (R : RelS sh L) {turn place : Int} {word : Str} (hp : place ∉ ks sh) : RelS (sh ++ [(place, false)]) (inL turn place word L) := by
  have eU : ∀ q, Us (inL turn place word L) q = if q = place then L.clock + 1 else Us L q := fun q => by
    show ((putI L.used place (L.clock + 1)).lookup q).getD 0 = _
    rw [lookup_putI]
    split <;> rfl
  have ek : ks (sh ++ [(place, false)]) = ks sh ++ [place] := by simp [ks]
  have hpw : place ∉ L.waits := fun z => hp (R.wk _ z)
  refine ⟨?_, fun q => ?_, nd_putI R.nl, fun q hq => ?_, ?_, fun q hq => ?_, fun e he => ?_, fun q hq => ?_⟩
  · rw [ek, List.nodup_append]
    exact ⟨R.nd, by simp, fun a ha b hb => by rw [List.mem_singleton.mp hb]; rintro rfl; exact hp ha⟩
  · show q ∈ ks (putI L.lies place _) ↔ _
    rw [ks_putI, ek, R.kk]
    simp
  · show q ∈ ks (putI L.used place _)
    rw [ks_putI]
    have hq : q ∈ ks (putI L.lies place (L.cells.getD place.toNat 0)) := hq
    rw [ks_putI] at hq
    rcases hq with hq | hq
    · exact .inl (R.us q hq)
    · exact .inr hq
  · rw [ek, List.pairwise_append]
    refine ⟨R.or.imp_of_mem fun {a b} ha hb h => ?_, by simp, fun a ha b hb => ?_⟩
    · rw [eU, eU, if_neg (by rintro rfl; exact hp ha), if_neg (by rintro rfl; exact hp hb)]
      exact h
    · rw [List.mem_singleton.mp hb, eU, eU, if_pos rfl, if_neg (by rintro rfl; exact hp ha)]
      have := R.ub a ha
      omega
  · rw [ek] at hq
    show Us (inL turn place word L) q ≤ L.clock + 1
    rw [eU]
    split
    · exact Int.le_refl _
    · rename_i n
      rcases List.mem_append.mp hq with hq | hq
      · have := R.ub q hq
        omega
      · exact absurd (List.mem_singleton.mp hq) n
  · show e.2 = true ↔ e.1 ∈ L.waits
    rcases List.mem_append.mp he with he | he
    · exact R.fl e he
    · rw [List.mem_singleton.mp he]
      simp [hpw]
  · rw [ek]
    exact List.mem_append_left _ (R.wk q hq)
theorem RelS.drop {e : Int × Bool} {t : Shelf} {L : LS} (R : RelS (e :: t) L) {turn : Int} : RelS t (outL turn e.1 L) := by
  have nd : (e.1 :: ks t).Nodup := R.nd
  rw [List.nodup_cons] at nd
  have or : (e.1 :: ks t).Pairwise fun a b => Us L a < Us L b := R.or
  rw [List.pairwise_cons] at or
  refine ⟨nd.2, fun q => ?_, R.nl.sublist (List.filter_sublist.map _), fun q hq => ?_, or.2, fun q hq => R.ub q (List.mem_cons_of_mem _ hq), fun x hx => ?_, fun q hq => ?_⟩
  · show q ∈ ks (L.lies.filter fun x => decide (x.1 ≠ e.1)) ↔ _
    rw [ks_drop, R.kk]
    constructor
    · rintro ⟨h, n⟩
      rcases List.mem_cons.mp h with h | h
      · exact absurd h n
      · exact h
    · intro h
      exact ⟨List.mem_cons_of_mem _ h, fun z => nd.1 (z ▸ h)⟩
  · have hq : q ∈ ks (L.lies.filter fun x => decide (x.1 ≠ e.1)) := hq
    rw [ks_drop] at hq
    exact R.us q hq.1
  · show x.2 = true ↔ x.1 ∈ L.waits.filter fun y => decide (y ≠ e.1)
    rw [R.fl x (List.mem_cons_of_mem _ hx), List.mem_filter]
    have hne : x.1 ≠ e.1 := fun z => nd.1 (z ▸ List.mem_map.mpr ⟨x, hx, rfl⟩)
    simp [hne]
  · have hq : q ∈ L.waits.filter fun y => decide (y ≠ e.1) := hq
    rw [List.mem_filter] at hq
    have n : q ≠ e.1 := of_decide_eq_true hq.2
    rcases List.mem_cons.mp (R.wk q hq.1) with h | h
    · exact absurd h n
    · exact h
def rowsOf (turn : Int) (es : Evs) : List (Int × Str × Int) := es.map fun e => (turn, e.1, e.2)
/-- laid, in both -/
theorem laid_rel {rm turn place : Int} {word : Str} {sh : Shelf} {L : LS} (R : RelS sh L) (h1 : 1 ≤ rm) (hp : place ∉ ks sh) :
    RelS (laidP rm sh place false).1 (laidL rm turn place word (oldL L) L) ∧ (laidL rm turn place word (oldL L) L).story = L.story ++ rowsOf turn (laidP rm sh place false).2 ++ [(turn, word, place)] ∧ (laidL rm turn place word (oldL L) L).way = L.way ∧ (laidL rm turn place word (oldL L) L).cells = L.cells ∧ (laidL rm turn place word (oldL L) L).answers = L.answers := by
  have ln := R.len
  unfold laidL laidP
  rw [ln]
  by_cases c : ((sh.length : Nat) : Int) = rm
  · rw [if_pos c, if_pos c]
    cases sh with
    | nil => exact absurd c (by show ¬ (0 : Int) = rm; omega)
    | cons e t =>
      have ho := R.old
      rw [ho.1]
      have hp' : place ∉ ks t := fun z => hp (List.mem_cons_of_mem _ z)
      refine ⟨(R.drop (turn := turn)).put hp', ?_, rfl, rfl, rfl⟩
      show L.story ++ [(turn, (if e.1 ∈ L.waits then "waste" else "leave" : Str), e.1)] ++ [(turn, word, place)] = L.story ++ [(turn, (if e.2 then "waste" else "leave" : Str), e.1)] ++ [(turn, word, place)]
      have fl := R.fl e (List.mem_cons_self ..)
      congr 5
      by_cases w : e.1 ∈ L.waits
      · rw [if_pos w, if_pos (fl.mpr w)]
      · rw [if_neg w, if_neg (fun z => w (fl.mp z))]
  · rw [if_neg c, if_neg c]
    refine ⟨R.put hp, ?_, rfl, rfl, rfl⟩
    show L.story ++ [(turn, word, place)] = L.story ++ [] ++ [(turn, word, place)]
    rw [List.append_nil]
end St

namespace St
open PySem PySem.Spec PyProof.Rows L2
theorem lookup_drop {l : List (Int × Int)} {k q : Int} : (l.filter fun e => decide (e.1 ≠ k)).lookup q = if q = k then none else l.lookup q := by
  induction l with
  | nil => simp [List.lookup]
  | cons a r ih =>
    obtain ⟨x, y⟩ := a
    rw [List.filter_cons]
    by_cases c : x = k
    · subst c
      rw [if_neg (by simp), ih]
      by_cases d : q = x
      · subst d; simp
      · have : (q == x) = false := beq_eq_false_iff_ne.mpr d
        rw [if_neg d, if_neg d, List.lookup_cons, this]
    · rw [if_pos (by simp [c]), List.lookup_cons, List.lookup_cons]
      by_cases d : q = x
      · subst d
        simp [c]
      · have : (q == x) = false := beq_eq_false_iff_ne.mpr d
        rw [this]
        exact ih
theorem evs_cells (t : Int) : ∀ (es : Evs) (s : RunS), (es.foldl (evS t) s).cells = s.cells
  | [], _ => rfl
  | e :: es, s => evs_cells t es (evS t s e)
theorem rowsOf_app (t : Int) (a b : Evs) : rowsOf t (a ++ b) = rowsOf t a ++ rowsOf t b := List.map_append
/-- within a turn: what is told so far, what lies there, of both -/
structure InT (t : Int) (st0 : List (Int × Str × Int)) (an0 : List Int) (s1 : RunS) (sh : Shelf) (evs : Evs) (L : LS) : Prop where
  R : RelS sh L
  st : L.story = st0 ++ rowsOf t evs
  lk : ∀ q, (evs.foldl (evS t) s1).lies.lookup q = L.lies.lookup q
  ce : L.cells = s1.cells
  an : L.answers = an0
theorem lk_in {t : Int} {s : RunS} {L : LS} {place : Int} {word : Str} (h : ∀ q, s.lies.lookup q = L.lies.lookup q) (hc : L.cells = s.cells) (hw : isIn word) : ∀ q, (evS t s (word, place)).lies.lookup q = (inL t place word L).lies.lookup q := fun q => by
  have n : ¬ isOut word := fun z => isOut_notIn z hw
  have e : (evS t s (word, place)).lies = putI s.lies place (s.cells.getD place.toNat 0) := (if_neg n).trans (if_pos hw)
  have e2 : (inL t place word L).lies = putI L.lies place (L.cells.getD place.toNat 0) := rfl
  rw [e, e2, lookup_putI, lookup_putI, h, hc]
theorem laid_In {t : Int} {st0 : List (Int × Str × Int)} {an0 : List Int} {s1 : RunS} {sh : Shelf} {evs : Evs} {L : LS} {rm place : Int} {word : Str} (I : InT t st0 an0 s1 sh evs L) (hw : isIn word) (h1 : 1 ≤ rm) (hp : place ∉ ks sh) :
    InT t st0 an0 s1 (laidP rm sh place false).1 (evs ++ (laidP rm sh place false).2 ++ [(word, place)]) (laidL rm t place word (oldL L) L) := by
  obtain ⟨r1, r2, r3, r4, r5⟩ := laid_rel (turn := t) (word := word) I.R h1 hp
  refine ⟨r1, ?_, fun q => ?_, r4.trans I.ce, r5.trans I.an⟩
  · rw [r2, I.st, rowsOf_app, rowsOf_app, List.append_assoc, List.append_assoc, List.append_assoc]
    rfl
  · rw [List.foldl_append, List.foldl_append]
    have ce := evs_cells t evs s1
    have lk := I.lk
    have cc := I.ce
    generalize evs.foldl (evS t) s1 = s at ce lk
    rw [← ce] at cc
    have ln := I.R.len
    have R := I.R
    unfold laidL laidP
    rw [ln]
    by_cases c : ((sh.length : Nat) : Int) = rm
    · rw [if_pos c, if_pos c]
      cases sh with
      | nil => exact absurd c (by show ¬ (0 : Int) = rm; omega)
      | cons e u =>
        have ho := R.old
        rw [ho.1]
        refine lk_in (fun q => ?_) (by show L.cells = (evS t s _).cells; exact cc) hw q
        have o : isOut (if e.2 then "waste" else "leave" : Str) := by split <;> decide
        have e1 : (evS t s ((if e.2 then "waste" else "leave" : Str), e.1)).lies = s.lies.filter (fun x => decide (x.1 ≠ e.1)) := if_pos o
        show (evS t s ((if e.2 then "waste" else "leave" : Str), e.1)).lies.lookup q = (L.lies.filter fun x => decide (x.1 ≠ e.1)).lookup q
        rw [e1, lookup_drop, lookup_drop, lk]
    · rw [if_neg c, if_neg c]
      exact lk_in lk cc hw q
/-- its flag -/
theorem laid_flag (rm : Int) (sh : Shelf) (p : Int) : ∃ i : Shelf, (laidP rm sh p false).1 = i ++ [(p, false)] ∧ (laidP rm sh p true).1 = i ++ [(p, true)] ∧ (laidP rm sh p true).2 = (laidP rm sh p false).2 := by
  unfold laidP
  split
  · cases sh with
    | nil => exact ⟨[], rfl, rfl, rfl⟩
    | cons e r => exact ⟨r, rfl, rfl, rfl⟩
  · exact ⟨sh, rfl, rfl, rfl⟩
theorem RelS.flag {i : Shelf} {p : Int} {L : LS} (R : RelS (i ++ [(p, false)]) L) : RelS (i ++ [(p, true)]) { L with waits := L.waits ++ [p] } := by
  have ek : ∀ b, ks (i ++ [(p, b)]) = ks i ++ [p] := fun b => by simp [ks]
  have nd := R.nd
  rw [ek, List.nodup_append] at nd
  have hpi : p ∉ ks i := fun z => nd.2.2 p z p (by simp) rfl
  refine ⟨by rw [ek]; have := R.nd; rw [ek] at this; exact this, fun q => by rw [ek]; have := R.kk q; rw [ek] at this; exact this, R.nl, R.us, by rw [ek]; have := R.or; rw [ek] at this; exact this, fun q hq => by rw [ek] at hq; exact R.ub q (by rw [ek]; exact hq), fun e he => ?_, fun q hq => ?_⟩
  · show e.2 = true ↔ e.1 ∈ L.waits ++ [p]
    rcases List.mem_append.mp he with he | he
    · have z := R.fl e (List.mem_append_left _ he)
      have ne : e.1 ≠ p := fun z => hpi (z ▸ List.mem_map.mpr ⟨e, he, rfl⟩)
      rw [z]
      simp [ne]
    · rw [List.mem_singleton.mp he]
      simp
  · have hq : q ∈ L.waits ++ [p] := hq
    rw [ek]
    rcases List.mem_append.mp hq with hq | hq
    · have := R.wk q hq
      rw [ek] at this
      exact this
    · exact List.mem_append_right _ hq
def comeL (rm t : Int) (L : LS) (e : Int × Int) : LS := { laidL rm t e.1 "come" (oldL L) L with waits := (laidL rm t e.1 "come" (oldL L) L).waits ++ [e.1] }
def comesL (rm t lt : Int) (L : LS) : LS := (L.way.filter fun e => decide (e.2 + lt < t)).foldl (comeL rm t) L
theorem come_In {t : Int} {st0 : List (Int × Str × Int)} {an0 : List Int} {s1 : RunS} {sh : Shelf} {evs : Evs} {L : LS} {rm place : Int} (I : InT t st0 an0 s1 sh evs L) (h1 : 1 ≤ rm) (hp : place ∉ ks sh) {b : Int} :
    InT t st0 an0 s1 (laidP rm sh place true).1 (evs ++ (laidP rm sh place true).2 ++ [(("come" : Str), place)]) (comeL rm t L (place, b)) := by
  have J := laid_In (word := "come") I (.inl rfl) h1 hp
  obtain ⟨i, e1, e2, e3⟩ := laid_flag rm sh place
  rw [e3, e2]
  rw [e1] at J
  exact ⟨J.R.flag, J.st, J.lk, J.ce, J.an⟩
theorem comes_In {t lt rm pl : Int} {st0 : List (Int × Str × Int)} {an0 : List Int} {s1 : RunS} (h1 : 1 ≤ rm) : ∀ (W : List (Int × Int)) (sh : Shelf) (left : Way) (evs : Evs) (L : LS), InT t st0 an0 s1 sh evs L → (ks sh ++ (ks left ++ ks W)).Nodup → (∀ q ∈ ks sh ++ (ks left ++ ks W), 0 ≤ q ∧ q < pl) → (∀ e ∈ W, 0 ≤ e.2 + lt + 1 - t) →
    InT t st0 an0 s1 ((W.map fun e => (e.1, e.2 + lt + 1 - t)).foldl (comeS rm) (sh, left, evs)).1 ((W.map fun e => (e.1, e.2 + lt + 1 - t)).foldl (comeS rm) (sh, left, evs)).2.2 ((W.filter fun e => decide (e.2 + lt < t)).foldl (comeL rm t) L) ∧
      ((W.map fun e => (e.1, e.2 + lt + 1 - t)).foldl (comeS rm) (sh, left, evs)).2.1 = left ++ (W.filter fun e => decide (t ≤ e.2 + lt)).map fun e => (e.1, e.2 + lt - t)
  | [], sh, left, evs, L, I, _, _, _ => ⟨I, by simp⟩
  | (p, b) :: W, sh, left, evs, L, I, nd, hr, hb => by
    have hb0 := hb (p, b) (List.mem_cons_self ..)
    have hb0 : 0 ≤ b + lt + 1 - t := hb0
    have hbW : ∀ e ∈ W, 0 ≤ e.2 + lt + 1 - t := fun e he => hb e (List.mem_cons_of_mem _ he)
    rw [List.map_cons, List.foldl_cons, List.filter_cons, List.filter_cons]
    have e1 : ks ((p, b) :: W) = p :: ks W := rfl
    rw [e1] at nd hr
    by_cases c : b + lt < t
    · have c0 : b + lt + 1 - t = 0 := by omega
      rw [if_pos (decide_eq_true c), if_neg (by simp; omega), List.foldl_cons]
      have e2 : comeS rm (sh, left, evs) (p, b + lt + 1 - t) = ((laidP rm sh p true).1, left, evs ++ (laidP rm sh p true).2 ++ [(("come" : Str), p)]) := if_pos c0
      rw [e2]
      have pm : (ks sh ++ (ks left ++ p :: ks W)).Perm (ks sh ++ p :: (ks left ++ ks W)) := List.Perm.append_left _ List.perm_middle
      have nd' := pm.nodup_iff.mp nd
      have hp : p ∉ ks sh := fun z => (List.nodup_append.mp nd').2.2 p z p (List.mem_cons_self ..) rfl
      obtain ⟨l1, l2, _⟩ := laid_inv (pl := pl) (rm := rm) (w := true) (word := "come") (.inl rfl) h1 nd' (fun q hq => hr q (pm.mem_iff.mpr hq))
      exact comes_In h1 W _ left _ _ (come_In I h1 hp) l1 l2 hbW
    · have c0 : ¬ b + lt + 1 - t = 0 := by omega
      rw [if_neg (by simp; omega), if_pos (decide_eq_true (by show t ≤ b + lt; omega))]
      have e2 : comeS rm (sh, left, evs) (p, b + lt + 1 - t) = (sh, left ++ [(p, b + lt + 1 - t - 1)], evs) := if_neg c0
      rw [e2]
      have e3 : ks (left ++ [(p, b + lt + 1 - t - 1)]) ++ ks W = ks left ++ p :: ks W := by simp [ks]
      obtain ⟨i1, i2⟩ := comes_In (pl := pl) (lt := lt) h1 W sh (left ++ [(p, b + lt + 1 - t - 1)]) evs L I (by rw [e3]; exact nd) (by rw [e3]; exact hr) hbW
      refine ⟨i1, ?_⟩
      rw [i2, List.append_assoc]
      have e4 : b + lt + 1 - t - 1 = b + lt - t := by omega
      rw [e4]
      rfl
end St

namespace St
open PySem PySem.Spec PyProof.Rows L2
theorem RelS.way {sh : Shelf} {L : LS} (R : RelS sh L) (w : List (Int × Int)) : RelS sh { L with way := w } := ⟨R.nd, R.kk, R.nl, R.us, R.or, R.ub, R.fl, R.wk⟩
theorem InT.way {t : Int} {st0 : List (Int × Str × Int)} {an0 : List Int} {s1 : RunS} {sh : Shelf} {evs : Evs} {L : LS} (I : InT t st0 an0 s1 sh evs L) (w : List (Int × Int)) : InT t st0 an0 s1 sh evs { L with way := w } := ⟨I.R.way w, I.st, I.lk, I.ce, I.an⟩
/-- found: to the end, no flag -/
theorem RelS.hit {sh : Shelf} {L : LS} (R : RelS sh L) {e : Int × Bool} {p : Int} (he : e ∈ sh) (ep : e.1 = p) {stn : List (Int × Str × Int)} :
    RelS (sh.filter (fun o => decide (o ≠ e)) ++ [(p, false)]) { L with clock := L.clock + 1, used := putI L.used p (L.clock + 1), story := stn, waits := L.waits.filter (fun x => decide (x ≠ p)) } := by
  have pm := hit_perm R.nd he ep
  have eU : ∀ q, Us { L with clock := L.clock + 1, used := putI L.used p (L.clock + 1), story := stn, waits := L.waits.filter (fun x => decide (x ≠ p)) } q = if q = p then L.clock + 1 else Us L q := fun q => by
    show ((putI L.used p (L.clock + 1)).lookup q).getD 0 = _
    rw [lookup_putI]
    split <;> rfl
  have ek : ks (sh.filter (fun o => decide (o ≠ e)) ++ [(p, false)]) = ks (sh.filter (fun o => decide (o ≠ e))) ++ [p] := by simp [ks]
  have nd' := pm.nodup_iff.mpr R.nd
  rw [ek, List.nodup_append] at nd'
  have hnp : p ∉ ks (sh.filter (fun o => decide (o ≠ e))) := fun z => nd'.2.2 p z p (by simp) rfl
  have sub : (ks (sh.filter (fun o => decide (o ≠ e)))).Sublist (ks sh) := List.filter_sublist.map _
  refine ⟨pm.nodup_iff.mpr R.nd, fun q => (R.kk q).trans pm.mem_iff.symm, R.nl, fun q hq => ?_, ?_, fun q hq => ?_, fun x hx => ?_, fun q hq => ?_⟩
  · show q ∈ ks (putI L.used p _)
    rw [ks_putI]
    exact .inl (R.us q hq)
  · rw [ek, List.pairwise_append]
    refine ⟨(R.or.sublist sub).imp_of_mem fun {a b} ha hb h => ?_, by simp, fun a ha b hb => ?_⟩
    · rw [eU, eU, if_neg (by rintro rfl; exact hnp ha), if_neg (by rintro rfl; exact hnp hb)]
      exact h
    · rw [List.mem_singleton.mp hb, eU, eU, if_pos rfl, if_neg (by rintro rfl; exact hnp ha)]
      have := R.ub a (sub.subset ha)
      omega
  · show _ ≤ L.clock + 1
    rw [eU]
    split
    · exact Int.le_refl _
    · have := R.ub q (pm.mem_iff.mp hq)
      omega
  · show x.2 = true ↔ x.1 ∈ L.waits.filter fun y => decide (y ≠ p)
    rw [List.mem_filter]
    rcases List.mem_append.mp hx with hx | hx
    · have hxs := (List.mem_filter.mp hx).1
      have z := R.fl x hxs
      have ne : x.1 ≠ p := fun z => hnp (z ▸ List.mem_map.mpr ⟨x, hx, rfl⟩)
      rw [z]
      simp [ne]
    · rw [List.mem_singleton.mp hx]
      simp
  · have hq : q ∈ L.waits.filter fun y => decide (y ≠ p) := hq
    exact pm.mem_iff.mpr (R.wk q (List.mem_filter.mp hq).1)
theorem asked_In {t lt : Int} {st0 : List (Int × Str × Int)} {an0 : List Int} {s1 : RunS} {sh : Shelf} {wy : Way} {evs : Evs} {L : LS} {rm p : Int} (I : InT t st0 an0 s1 sh evs L) (h1 : 1 ≤ rm) (hw : wy = L.way.map fun e => (e.1, e.2 + lt - t)) :
    InT t st0 an0 s1 (askedP rm sh wy p).1 (evs ++ (askedP rm sh wy p).2.2) (askedL rm t p (oldL L) L) ∧ (askedP rm sh wy p).2.1 = (askedL rm t p (oldL L) L).way.map (fun e => (e.1, e.2 + lt - t)) ∧ (∀ e ∈ (askedL rm t p (oldL L) L).way, e ∈ L.way) := by
  unfold askedP askedL
  cases f : sh.find? (fun e => decide (e.1 = p)) with
  | some e =>
    obtain ⟨he, ep⟩ := find_ks f
    have hk : p ∈ ks L.lies := (I.R.kk p).mpr (List.mem_map.mpr ⟨e, he, ep⟩)
    rw [if_pos hk]
    refine ⟨⟨I.R.hit he ep, ?_, fun q => ?_, I.ce, I.an⟩, hw, fun _ h => h⟩
    · show L.story ++ [(t, (if p ∈ L.waits then "first" else "hit" : Str), p)] = st0 ++ rowsOf t (evs ++ [((if e.2 then "first" else "hit" : Str), p)])
      rw [I.st, rowsOf_app, List.append_assoc]
      congr 2
      have fl := I.R.fl e he
      rw [ep] at fl
      show [(t, (if p ∈ L.waits then "first" else "hit" : Str), p)] = [(t, (if e.2 then "first" else "hit" : Str), p)]
      by_cases w : p ∈ L.waits
      · rw [if_pos w, if_pos (fl.mpr w)]
      · rw [if_neg w, if_neg (fun z => w (fl.mp z))]
    · rw [List.foldl_append]
      have n1 : ¬ isOut (if e.2 then "first" else "hit" : Str) := by split <;> decide
      have n2 : ¬ isIn (if e.2 then "first" else "hit" : Str) := by split <;> decide
      have e1 : (evS t (evs.foldl (evS t) s1) ((if e.2 then "first" else "hit" : Str), p)).lies = (evs.foldl (evS t) s1).lies := (if_neg n1).trans (if_neg n2)
      show (evS t (evs.foldl (evS t) s1) ((if e.2 then "first" else "hit" : Str), p)).lies.lookup q = _
      rw [e1]
      exact I.lk q
  | none =>
    have hpn : p ∉ ks sh := fun z => by
      obtain ⟨y, hy, ey⟩ := List.mem_map.mp z
      have := List.find?_eq_none.mp f y hy
      simp at this
      exact this ey
    have hk : p ∉ ks L.lies := fun z => hpn ((I.R.kk p).mp z)
    rw [if_neg hk]
    have ef : wy.filter (fun e => decide (e.1 ≠ p)) = (L.way.filter fun e => decide (e.1 ≠ p)).map fun e => (e.1, e.2 + lt - t) := by
      rw [hw, List.filter_map]
      rfl
    have el : (wy.filter fun e => decide (e.1 ≠ p)).length = wy.length ↔ (L.way.filter fun e => decide (e.1 ≠ p)).length = L.way.length := by
      rw [ef, hw, List.length_map, List.length_map]
    have ew : (if (wy.filter fun e => decide (e.1 ≠ p)).length = wy.length then "miss" else "late" : Str) = (if (L.way.filter fun e => decide (e.1 ≠ p)).length = L.way.length then "miss" else "late" : Str) := by
      by_cases c : (L.way.filter fun e => decide (e.1 ≠ p)).length = L.way.length
      · rw [if_pos c, if_pos (el.mpr c)]
      · rw [if_neg c, if_neg (fun z => c (el.mp z))]
    have hin : isIn (if (L.way.filter fun e => decide (e.1 ≠ p)).length = L.way.length then "miss" else "late" : Str) := by split <;> decide
    have J := laid_In (I.way (L.way.filter fun e => decide (e.1 ≠ p))) hin h1 hpn
    have hway : (laidL rm t p (if (L.way.filter fun e => decide (e.1 ≠ p)).length = L.way.length then "miss" else "late" : Str) (oldL { L with way := L.way.filter fun e => decide (e.1 ≠ p) }) { L with way := L.way.filter fun e => decide (e.1 ≠ p) }).way = L.way.filter fun e => decide (e.1 ≠ p) := (laid_rel (turn := t) (word := _) (I.R.way (L.way.filter fun e => decide (e.1 ≠ p))) h1 hpn).2.2.1
    refine ⟨?_, ?_, fun e he => ?_⟩
    · show InT t st0 an0 s1 (laidP rm sh p false).1 (evs ++ ((laidP rm sh p false).2 ++ [((if (wy.filter fun e => decide (e.1 ≠ p)).length = wy.length then "miss" else "late" : Str), p)])) _
      rw [ew, ← List.append_assoc]
      exact J
    · show wy.filter (fun e => decide (e.1 ≠ p)) = _
      rw [ef]
      exact congrArg (List.map _) hway.symm
    · have he : e ∈ L.way.filter fun e => decide (e.1 ≠ p) := by rw [← hway]; exact he
      exact (List.mem_filter.mp he).1
def startL (pl ms t : Int) (L : LS) (g : Int) : LS := if (0 ≤ g ∧ g < pl) ∧ ¬ (g ∈ ks L.lies ∨ g ∈ ks L.way) ∧ ((L.way.length : Nat) : Int) < ms then { L with way := L.way ++ [(g, t)], story := L.story ++ [(t, ("start" : Str), g)] } else L
theorem starts_rel {t lt pl ms : Int} {sh : Shelf} : ∀ (gs : List Int) (wy : Way) (evs : Evs) (L : LS) (st0 : List (Int × Str × Int)), RelS sh L → wy = L.way.map (fun e => (e.1, e.2 + lt - t)) → L.story = st0 ++ rowsOf t evs →
    RelS sh (gs.foldl (startL pl ms t) L) ∧ (gs.foldl (startS pl lt ms sh) (wy, evs)).1 = (gs.foldl (startL pl ms t) L).way.map (fun e => (e.1, e.2 + lt - t)) ∧ (gs.foldl (startL pl ms t) L).story = st0 ++ rowsOf t (gs.foldl (startS pl lt ms sh) (wy, evs)).2 ∧
      (gs.foldl (startL pl ms t) L).lies = L.lies ∧ (gs.foldl (startL pl ms t) L).cells = L.cells ∧ (gs.foldl (startL pl ms t) L).answers = L.answers ∧ (∀ e ∈ (gs.foldl (startL pl ms t) L).way, e ∈ L.way ∨ e.2 = t)
  | [], wy, evs, L, st0, R, hw, hs => ⟨R, hw, hs, rfl, rfl, rfl, fun e he => .inl he⟩
  | g :: gs, wy, evs, L, st0, R, hw, hs => by
    rw [List.foldl_cons, List.foldl_cons]
    have k1 : ks wy = ks L.way := by rw [hw]; unfold ks; rw [List.map_map]; rfl
    have k2 : wy.length = L.way.length := by rw [hw, List.length_map]
    have iffc : ((0 ≤ g ∧ g < pl) ∧ g ∉ sh.map (·.1) ++ wy.map (·.1) ∧ ((wy.length : Nat) : Int) < ms) ↔ ((0 ≤ g ∧ g < pl) ∧ ¬ (g ∈ ks L.lies ∨ g ∈ ks L.way) ∧ ((L.way.length : Nat) : Int) < ms) := by
      have k3 : g ∈ sh.map (·.1) ++ wy.map (·.1) ↔ g ∈ ks L.lies ∨ g ∈ ks L.way := by
        rw [List.mem_append, R.kk]
        show _ ∨ g ∈ ks wy ↔ _
        rw [k1]
        exact Iff.rfl
      rw [k2, k3]
    by_cases c : (0 ≤ g ∧ g < pl) ∧ ¬ (g ∈ ks L.lies ∨ g ∈ ks L.way) ∧ ((L.way.length : Nat) : Int) < ms
    · have e1 : startL pl ms t L g = { L with way := L.way ++ [(g, t)], story := L.story ++ [(t, ("start" : Str), g)] } := if_pos c
      have e2 : startS pl lt ms sh (wy, evs) g = (wy ++ [(g, lt)], evs ++ [(("start" : Str), g)]) := if_pos (iffc.mpr c)
      rw [e1, e2]
      obtain ⟨i1, i2, i3, i4, i5, i6, i7⟩ := starts_rel (pl := pl) (ms := ms) (lt := lt) gs (wy ++ [(g, lt)]) (evs ++ [(("start" : Str), g)]) { L with way := L.way ++ [(g, t)], story := L.story ++ [(t, ("start" : Str), g)] } st0 ⟨R.nd, R.kk, R.nl, R.us, R.or, R.ub, R.fl, R.wk⟩
        (by show _ = (L.way ++ [(g, t)]).map _; rw [List.map_append, hw]; show _ ++ [(g, lt)] = _ ++ [(g, t + lt - t)]; rw [show t + lt - t = lt by omega]) (by show L.story ++ _ = _; rw [hs, rowsOf_app, List.append_assoc]; rfl)
      refine ⟨i1, i2, i3, i4, i5, i6, fun e he => ?_⟩
      rcases i7 e he with h | h
      · rcases List.mem_append.mp h with h | h
        · exact .inl h
        · rw [List.mem_singleton.mp h]
          exact .inr rfl
      · exact .inr h
    · have e1 : startL pl ms t L g = L := if_neg c
      have e2 : startS pl lt ms sh (wy, evs) g = (wy, evs) := if_neg (fun z => c (iffc.mp z))
      rw [e1, e2]
      exact starts_rel gs wy evs L st0 R hw hs
end St

namespace St
open PySem PySem.Spec PyProof.Rows L2
structure RR (c : Cfg) (t : Int) (s : RunS) (L : LS) : Prop where
  R : RelS s.st.1 L
  wy : s.st.2.1 = L.way.map (fun e => (e.1, e.2 + c.lt - t))
  nn : ∀ e ∈ L.way, 0 ≤ e.2 + c.lt - t
  st : L.story = s.rows
  lk : ∀ q, s.lies.lookup q = L.lies.lookup q
  ce : L.cells = s.cells
  an : L.answers = s.answers
def midL (c : Cfg) (t : Int) (L : LS) : LS := { comesL c.rm t c.lt L with way := (comesL c.rm t c.lt L).way.filter fun e => decide (t ≤ e.2 + c.lt) }
def deedL (d : Deed) (L : LS) : LS := match d.2 with
  | none => { L with answers := L.answers ++ [(L.lies.lookup d.1).getD 0] }
  | some v => { L with lies := putI L.lies d.1 v, cells := L.cells.set d.1.toNat v }
def turnL (c : Cfg) (t : Int) (d : Deed) (gs : List Int) (L : LS) : LS := gs.foldl (startL c.pl c.ms t) (deedL d (askedL c.rm t d.1 (oldL (midL c t L)) (midL c t L)))
theorem laidL_way (rm t p : Int) (w : Str) (old : Int) (L : LS) : (laidL rm t p w old L).way = L.way := by
  unfold laidL
  split <;> rfl
theorem comes_way (rm t : Int) : ∀ (W : List (Int × Int)) (L : LS), (W.foldl (comeL rm t) L).way = L.way
  | [], _ => rfl
  | e :: W, L => (comes_way rm t W _).trans (laidL_way rm t e.1 "come" (oldL L) L)
theorem evs_rows (t : Int) : ∀ (es : Evs) (s : RunS), (es.foldl (evS t) s).rows = s.rows ++ rowsOf t es
  | [], s => (List.append_nil _).symm
  | e :: es, s => by
    rw [List.foldl_cons, evs_rows t es]
    show s.rows ++ [(t, e.1, e.2)] ++ rowsOf t es = s.rows ++ ((t, e.1, e.2) :: rowsOf t es)
    rw [List.append_assoc]
    rfl
theorem evs_st (t : Int) : ∀ (es : Evs) (s : RunS), (es.foldl (evS t) s).st = s.st ∧ (es.foldl (evS t) s).answers = s.answers
  | [], _ => ⟨rfl, rfl⟩
  | e :: es, s => evs_st t es (evS t s e)
theorem starts_words {pl lt ms : Int} {sh : Shelf} : ∀ (gs : List Int) (wy : Way) (evs : Evs), (∀ e ∈ evs, e.1 = ("start" : Str)) → ∀ e ∈ (gs.foldl (startS pl lt ms sh) (wy, evs)).2, e.1 = ("start" : Str)
  | [], _, _, h => h
  | g :: gs, wy, evs, h => by
    rw [List.foldl_cons]
    by_cases c : (0 ≤ g ∧ g < pl) ∧ g ∉ sh.map (·.1) ++ wy.map (·.1) ∧ ((wy.length : Nat) : Int) < ms
    · have e : startS pl lt ms sh (wy, evs) g = (wy ++ [(g, lt)], evs ++ [(("start" : Str), g)]) := if_pos c
      rw [e]
      refine starts_words gs _ _ fun x hx => ?_
      rcases List.mem_append.mp hx with hx | hx
      · exact h x hx
      · rw [List.mem_singleton.mp hx]
    · have e : startS pl lt ms sh (wy, evs) g = (wy, evs) := if_neg c
      rw [e]
      exact starts_words gs wy evs h
theorem evs_start (t : Int) : ∀ (es : Evs) (s : RunS), (∀ e ∈ es, e.1 = ("start" : Str)) → (es.foldl (evS t) s).lies = s.lies
  | [], _, _ => rfl
  | e :: es, s, h => by
    rw [List.foldl_cons, evs_start t es _ fun x hx => h x (List.mem_cons_of_mem _ hx)]
    have e1 := h e (List.mem_cons_self ..)
    have n1 : ¬ isOut e.1 := by rw [e1]; decide
    have n2 : ¬ isIn e.1 := by rw [e1]; decide
    exact (if_neg n1).trans (if_neg n2)
/-- the deed, in both -/
theorem deed_rel {sh : Shelf} {L : LS} (R : RelS sh L) {d : Deed} (hd : d.1 ∈ ks sh) : RelS sh (deedL d L) ∧ (deedL d L).way = L.way ∧ (deedL d L).story = L.story := by
  obtain ⟨p, v⟩ := d
  cases v with
  | none => exact ⟨⟨R.nd, R.kk, R.nl, R.us, R.or, R.ub, R.fl, R.wk⟩, rfl, rfl⟩
  | some v =>
    have hk : p ∈ ks L.lies := (R.kk p).mpr hd
    have kk : ∀ q, q ∈ ks (putI L.lies p v) ↔ q ∈ ks L.lies := fun q => by
      rw [ks_putI]
      constructor
      · rintro (h | rfl)
        · exact h
        · exact hk
      · exact .inl
    exact ⟨⟨R.nd, fun q => (kk q).trans (R.kk q), nd_putI R.nl, fun q hq => R.us q ((kk q).mp hq), R.or, R.ub, R.fl, R.wk⟩, rfl, rfl⟩
theorem turn_rel {c : Cfg} (ok : c.Ok) (lt0 : 0 ≤ c.lt) {n : Nat} {s : RunS} {L : LS} {t : Int} {d : Deed} (I : InvD c n s) (gd : Deed.Good c.pl d) (r : RR c (t - 1) s L) : RR c t (deedS c t d s) (turnL c t d (stepG c.g s.st.2.2 d.1).2 L) := by
  obtain ⟨cells, lies, answers, rows, ⟨sh, wy, kn⟩⟩ := s
  have iv := I.iv
  have hwy : wy = L.way.map (fun e => (e.1, e.2 + c.lt + 1 - t)) := by
    have z := r.wy
    have z : wy = L.way.map (fun e => (e.1, e.2 + c.lt - (t - 1))) := z
    rw [z]
    refine List.map_congr_left fun e _ => ?_
    show (e.1, e.2 + c.lt - (t - 1)) = (e.1, e.2 + c.lt + 1 - t)
    congr 1
    omega
  have nd : (ks sh ++ (ks ([] : Way) ++ ks L.way)).Nodup := by
    have z := iv.nd
    have z : (ks sh ++ ks wy).Nodup := z
    have k1 : ks wy = ks L.way := by rw [hwy]; unfold ks; rw [List.map_map]; rfl
    rw [k1] at z
    exact z
  have rg : ∀ q ∈ ks sh ++ (ks ([] : Way) ++ ks L.way), 0 ≤ q ∧ q < c.pl := by
    have z := iv.rg
    have z : ∀ q ∈ ks sh ++ ks wy, 0 ≤ q ∧ q < c.pl := z
    have k1 : ks wy = ks L.way := by rw [hwy]; unfold ks; rw [List.map_map]; rfl
    rw [k1] at z
    exact z
  have I0 : InT t rows answers ⟨cells, lies, answers, rows, (goC c (sh, wy, kn) d.1).1⟩ sh [] L := ⟨r.R, by rw [r.st]; exact (List.append_nil _).symm, r.lk, r.ce, r.an⟩
  obtain ⟨i1, i2⟩ := comes_In (lt := c.lt) (pl := c.pl) ok.r1 L.way sh [] [] L I0 nd rg (fun e he => by have := r.nn e he; omega)
  rw [← hwy] at i1 i2
  rw [List.nil_append] at i2
  have lw : ((sh.length : Nat) : Int) ≤ c.rm := iv.l1
  obtain ⟨c1, c2, c3, c4, c5⟩ := come_inv (pl := c.pl) (A := (· ∈ ks sh)) ok.r1 wy sh [] [] iv.nd iv.rg lw (fun q => Iff.rfl)
  have wayE : (comesL c.rm t c.lt L).way = L.way := comes_way c.rm t _ L
  have mw : (midL c t L).way = L.way.filter fun e => decide (t ≤ e.2 + c.lt) := by
    show (comesL c.rm t c.lt L).way.filter _ = _
    rw [wayE]
  have J := asked_In (p := d.1) (lt := c.lt) (wy := (wy.foldl (comeS c.rm) (sh, [], [])).2.1) (L := midL c t L) (InT.way i1 _) ok.r1 (by rw [mw]; exact i2)
  obtain ⟨j1, j2, j3⟩ := J
  have ai := asked_inv (pl := c.pl) (p := d.1) ok.r1 c1 c2 c3 (Deed.pl gd)
  obtain ⟨a1, a2, a3, a4, a5, a6⟩ := ai
  obtain ⟨d1, d2, d3⟩ := deed_rel j1.R a5
  have hE : (deedL d (askedL c.rm t d.1 (oldL (midL c t L)) (midL c t L))).story = (rows ++ rowsOf t ((wy.foldl (comeS c.rm) (sh, [], [])).2.2 ++ (askedP c.rm (wy.foldl (comeS c.rm) (sh, [], [])).1 (wy.foldl (comeS c.rm) (sh, [], [])).2.1 d.1).2.2)) ++ rowsOf t [] := by
    rw [d3, j1.st]
    exact (List.append_nil _).symm
  obtain ⟨s1, s2, s3, s4, s5, s6, s7⟩ := starts_rel (t := t) (lt := c.lt) (pl := c.pl) (ms := c.ms) (stepG c.g kn d.1).2 (askedP c.rm (wy.foldl (comeS c.rm) (sh, [], [])).1 (wy.foldl (comeS c.rm) (sh, [], [])).2.1 d.1).2.1 [] _ _ d1 (by rw [d2]; exact j2) hE
  have fl : ∀ e ∈ ((stepG c.g kn d.1).2.foldl (startS c.pl c.lt c.ms (askedP c.rm (wy.foldl (comeS c.rm) (sh, [], [])).1 (wy.foldl (comeS c.rm) (sh, [], [])).2.1 d.1).1) ((askedP c.rm (wy.foldl (comeS c.rm) (sh, [], [])).1 (wy.foldl (comeS c.rm) (sh, [], [])).2.1 d.1).2.1, [])).2, e.1 = ("start" : Str) := starts_words _ _ _ (fun _ h => (nomatch h))
  have eg : (goC c (sh, wy, kn) d.1).2 = ((wy.foldl (comeS c.rm) (sh, [], [])).2.2 ++ (askedP c.rm (wy.foldl (comeS c.rm) (sh, [], [])).1 (wy.foldl (comeS c.rm) (sh, [], [])).2.1 d.1).2.2) ++ ((stepG c.g kn d.1).2.foldl (startS c.pl c.lt c.ms (askedP c.rm (wy.foldl (comeS c.rm) (sh, [], [])).1 (wy.foldl (comeS c.rm) (sh, [], [])).2.1 d.1).1) ((askedP c.rm (wy.foldl (comeS c.rm) (sh, [], [])).1 (wy.foldl (comeS c.rm) (sh, [], [])).2.1 d.1).2.1, [])).2 := rfl
  have est1 : (goC c (sh, wy, kn) d.1).1.1 = (askedP c.rm (wy.foldl (comeS c.rm) (sh, [], [])).1 (wy.foldl (comeS c.rm) (sh, [], [])).2.1 d.1).1 := rfl
  have est2 : (goC c (sh, wy, kn) d.1).1.2.1 = ((stepG c.g kn d.1).2.foldl (startS c.pl c.lt c.ms (askedP c.rm (wy.foldl (comeS c.rm) (sh, [], [])).1 (wy.foldl (comeS c.rm) (sh, [], [])).2.1 d.1).1) ((askedP c.rm (wy.foldl (comeS c.rm) (sh, [], [])).1 (wy.foldl (comeS c.rm) (sh, [], [])).2.1 d.1).2.1, [])).1 := rfl
  have nnA : ∀ e ∈ (turnL c t d (stepG c.g kn d.1).2 L).way, 0 ≤ e.2 + c.lt - t := fun e he => by
    rcases s7 e he with h | h
    · rw [d2] at h
      have h2 := j3 e h
      rw [mw] at h2
      have := of_decide_eq_true (List.mem_filter.mp h2).2
      omega
    · rw [h]
      omega
  unfold deedS
  show RR c t (doD d ((goC c (sh, wy, kn) d.1).2.foldl (evS t) ⟨cells, lies, answers, rows, (goC c (sh, wy, kn) d.1).1⟩)) (turnL c t d (stepG c.g kn d.1).2 L)
  have u1 : ((goC c (sh, wy, kn) d.1).2.foldl (evS t) ⟨cells, lies, answers, rows, (goC c (sh, wy, kn) d.1).1⟩).rows = (turnL c t d (stepG c.g kn d.1).2 L).story := by
    rw [evs_rows]
    show rows ++ rowsOf t (goC c (sh, wy, kn) d.1).2 = _
    rw [eg, rowsOf_app, ← List.append_assoc]
    exact s3.symm
  have u2 := evs_cells t (goC c (sh, wy, kn) d.1).2 ⟨cells, lies, answers, rows, (goC c (sh, wy, kn) d.1).1⟩
  have u3 := evs_st t (goC c (sh, wy, kn) d.1).2 ⟨cells, lies, answers, rows, (goC c (sh, wy, kn) d.1).1⟩
  have u4 : ∀ q, ((goC c (sh, wy, kn) d.1).2.foldl (evS t) ⟨cells, lies, answers, rows, (goC c (sh, wy, kn) d.1).1⟩).lies.lookup q = (askedL c.rm t d.1 (oldL (midL c t L)) (midL c t L)).lies.lookup q := fun q => by
    rw [eg, List.foldl_append, evs_start t _ _ fl]
    exact j1.lk q
  generalize (goC c (sh, wy, kn) d.1).2.foldl (evS t) ⟨cells, lies, answers, rows, (goC c (sh, wy, kn) d.1).1⟩ = u at u1 u2 u3 u4
  have u2 : u.cells = cells := u2
  have u31 : u.st = (goC c (sh, wy, kn) d.1).1 := u3.1
  have u32 : u.answers = answers := u3.2
  have jc : (askedL c.rm t d.1 (oldL (midL c t L)) (midL c t L)).cells = cells := j1.ce
  have ja : (askedL c.rm t d.1 (oldL (midL c t L)) (midL c t L)).answers = answers := j1.an
  have R' : RelS u.st.1 (turnL c t d (stepG c.g kn d.1).2 L) := by rw [u31]; exact s1
  have W' : u.st.2.1 = (turnL c t d (stepG c.g kn d.1).2 L).way.map (fun e => (e.1, e.2 + c.lt - t)) := by rw [u31]; exact s2
  have s4 : (turnL c t d (stepG c.g kn d.1).2 L).lies = (deedL d (askedL c.rm t d.1 (oldL (midL c t L)) (midL c t L))).lies := s4
  have s5 : (turnL c t d (stepG c.g kn d.1).2 L).cells = (deedL d (askedL c.rm t d.1 (oldL (midL c t L)) (midL c t L))).cells := s5
  have s6 : (turnL c t d (stepG c.g kn d.1).2 L).answers = (deedL d (askedL c.rm t d.1 (oldL (midL c t L)) (midL c t L))).answers := s6
  obtain ⟨p, v⟩ := d
  cases v with
  | none =>
    refine ⟨R', W', nnA, u1.symm, fun q => ?_, ?_, ?_⟩
    · rw [s4]
      exact u4 q
    · rw [s5]
      exact jc.trans u2.symm
    · rw [s6]
      show (askedL _ _ _ _ _).answers ++ [((askedL _ _ _ _ _).lies.lookup p).getD 0] = u.answers ++ [(u.lies.lookup p).getD 0]
      rw [ja, u32, u4]
  | some v =>
    refine ⟨R', W', nnA, u1.symm, fun q => ?_, ?_, ?_⟩
    · rw [s4]
      show (putI u.lies p v).lookup q = (putI (askedL _ _ _ _ _).lies p v).lookup q
      rw [lookup_putI, lookup_putI, u4]
    · rw [s5]
      show (askedL _ _ _ _ _).cells.set p.toNat v = u.cells.set p.toNat v
      rw [jc, u2]
    · rw [s6]
      show (askedL _ _ _ _ _).answers = u.answers
      rw [ja, u32]
end St

namespace St
open PySem PySem.Spec PyProof.Rows L2
/-- as the law's comings go on: there is a shelf that it is like -/
structure ShL (pl rm : Int) (r : List Int) (L : LS) : Prop where
  ex : ∃ sh, RelS sh L ∧ (ks sh ++ r).Nodup ∧ (∀ q ∈ ks sh ++ r, 0 ≤ q ∧ q < pl) ∧ ((sh.length : Nat) : Int) ≤ rm
theorem comes_pre {pl rm t : Int} (h1 : 1 ≤ rm) : ∀ (F : List (Int × Int)) (L : LS), ShL pl rm (ks F) L → ∀ i, i ≤ F.length → ShL pl rm (ks (F.drop i)) ((F.take i).foldl (comeL rm t) L)
  | F, L, h, 0, _ => h
  | [], L, h, i + 1, hi => absurd hi (Nat.not_succ_le_zero _)
  | (p, b) :: F, L, ⟨sh, R, nd, rg, hl⟩, i + 1, hi => by
    have e1 : ks ((p, b) :: F) = p :: ks F := rfl
    rw [e1] at nd rg
    have hp : p ∉ ks sh := fun z => (List.nodup_append.mp nd).2.2 p z p (List.mem_cons_self ..) rfl
    have J := (laid_rel (turn := t) (word := "come") R h1 hp).1
    obtain ⟨iz, z1, z2, z3⟩ := laid_flag rm sh p
    rw [z1] at J
    obtain ⟨l1, l2, _⟩ := laid_inv (pl := pl) (rm := rm) (w := true) (word := "come") (.inl rfl) h1 nd rg
    have R2 : RelS (laidP rm sh p true).1 (comeL rm t L (p, b)) := by rw [z2]; exact J.flag
    exact comes_pre h1 F (comeL rm t L (p, b)) ⟨_, R2, l1, l2, laidP_room h1 hl⟩ i (Nat.le_of_succ_le_succ hi)
theorem ShL.way {pl rm : Int} {r : List Int} {L : LS} (h : ShL pl rm r L) (w : List (Int × Int)) : ShL pl rm r { L with way := w } := by
  obtain ⟨sh, R, a, b, c⟩ := h
  exact ⟨sh, R.way w, a, b, c⟩
/-- what a laying wants -/
theorem ShL.ok {pl rm p : Int} {r : List Int} {L : LS} (h : ShL pl rm r L) (h1 : 1 ≤ rm) (r8 : rm ≤ 8) (hp : 0 ≤ p ∧ p < pl) (ce : ((L.cells.length : Nat) : Int) = pl) (z2 : L.used.length ≤ 10000) (z3 : L.waits.length ≤ 10000) (z4 : L.story.length ≤ 100000) : LaidOk rm p (oldL L) L := by
  obtain ⟨sh, R, nd, rg, hl⟩ := h
  have ln := R.len
  refine ⟨by rw [ce]; exact hp, R.us, R.nl, fun c => ?_, by omega, z2, z3, z4⟩
  cases sh with
  | nil => rw [ln] at c; exact absurd c (by show ¬ (0 : Int) = rm; omega)
  | cons e u =>
    obtain ⟨a, b, c⟩ := R.old
    rw [a]
    exact ⟨b, c⟩
theorem ShL.asked {pl rm t p : Int} {r : List Int} {L : LS} (h : ShL pl rm r L) (h1 : 1 ≤ rm) : ∃ sh, RelS sh (askedL rm t p (oldL L) L) ∧ p ∈ ks sh ∧ ((sh.length : Nat) : Int) ≤ rm + 1 := by
  obtain ⟨sh, R, nd, rg, hl⟩ := h
  have I : InT t L.story L.answers ⟨L.cells, L.lies, L.answers, [], ([], [], .prs none [])⟩ sh [] L := ⟨R, (List.append_nil _).symm, fun _ => rfl, rfl, rfl⟩
  have J := asked_In (p := p) (lt := 0) (wy := L.way.map fun e => (e.1, e.2 + 0 - t)) I h1 rfl
  have al := (askedP_len rm sh (L.way.map fun e => (e.1, e.2 + 0 - t)) p).1
  refine ⟨_, J.1.R, ?_, by omega⟩
  unfold askedP
  cases f : sh.find? (fun e => decide (e.1 = p)) with
  | some x =>
    show p ∈ ks (sh.filter _ ++ [(p, false)])
    simp [ks]
  | none =>
    show p ∈ ks (laidP rm sh p false).1
    obtain ⟨i, e, _⟩ := laid_flag rm sh p
    rw [e]
    simp [ks]
/-! sizes -/
structure SzL (n : Nat) (L : LS) : Prop where
  u : L.used.length ≤ n
  w : L.waits.length ≤ n
theorem SzL.mono {n m : Nat} {L : LS} (h : SzL n L) (e : n ≤ m) : SzL m L := ⟨Nat.le_trans h.u e, Nat.le_trans h.w e⟩
theorem SzL.laid {n : Nat} {L : LS} (h : SzL n L) (rm t p : Int) (w : Str) (old : Int) : SzL (n + 1) (laidL rm t p w old L) ∧ (laidL rm t p w old L).story.length ≤ L.story.length + 2 ∧ (laidL rm t p w old L).cells = L.cells := by
  unfold laidL
  have pu := putI_len L.used p (L.clock + 1)
  have hu := h.u
  have hw := h.w
  split
  · refine ⟨⟨?_, ?_⟩, ?_, rfl⟩
    · show (putI L.used p (L.clock + 1)).length ≤ _
      omega
    · show (L.waits.filter _).length ≤ _
      exact Nat.le_succ_of_le (Nat.le_trans (List.length_filter_le _ _) hw)
    · show (L.story ++ [_] ++ [_]).length ≤ _
      rw [List.length_append, List.length_append]
      exact Nat.le_refl _
  · refine ⟨⟨?_, Nat.le_succ_of_le hw⟩, ?_, rfl⟩
    · show (putI L.used p (L.clock + 1)).length ≤ _
      omega
    · show (L.story ++ [_]).length ≤ _
      rw [List.length_append]
      exact Nat.le_succ _
theorem SzL.comes {rm t : Int} : ∀ (F : List (Int × Int)) {n : Nat} {L : LS}, SzL n L → ∀ i, i ≤ F.length → SzL (n + i) ((F.take i).foldl (comeL rm t) L) ∧ ((F.take i).foldl (comeL rm t) L).story.length ≤ L.story.length + 2 * i ∧ ((F.take i).foldl (comeL rm t) L).cells = L.cells
  | F, n, L, h, 0, _ => ⟨h, Nat.le_refl _, rfl⟩
  | [], n, L, h, i + 1, hi => absurd hi (Nat.not_succ_le_zero _)
  | e :: F, n, L, h, i + 1, hi => by
    obtain ⟨a, b, c⟩ := h.laid rm t e.1 "come" (oldL L)
    have h2 : SzL (n + 1) (comeL rm t L e) := by
      refine ⟨a.u, ?_⟩
      show ((laidL rm t e.1 "come" (oldL L) L).waits ++ [e.1]).length ≤ n + 1
      rw [List.length_append]
      have hw := h.w
      have : (laidL rm t e.1 "come" (oldL L) L).waits.length ≤ n := by
        unfold laidL
        split
        · exact Nat.le_trans (List.length_filter_le _ _) hw
        · exact hw
      show _ + 1 ≤ _
      omega
    obtain ⟨i1, i2, i3⟩ := SzL.comes (rm := rm) (t := t) F h2 i (Nat.le_of_succ_le_succ hi)
    have b : (comeL rm t L e).story.length ≤ L.story.length + 2 := b
    have c : (comeL rm t L e).cells = L.cells := c
    refine ⟨i1.mono (by omega), ?_, i3.trans c⟩
    show ((F.take i).foldl (comeL rm t) (comeL rm t L e)).story.length ≤ _
    omega
theorem SzL.asked {n : Nat} {L : LS} (h : SzL n L) (rm t p old : Int) : SzL (n + 1) (askedL rm t p old L) ∧ (askedL rm t p old L).cells = L.cells := by
  unfold askedL
  have pu := putI_len L.used p (L.clock + 1)
  have hu := h.u
  have hw := h.w
  split
  · refine ⟨⟨?_, ?_⟩, rfl⟩
    · show (putI L.used p (L.clock + 1)).length ≤ _
      omega
    · show (L.waits.filter _).length ≤ _
      exact Nat.le_succ_of_le (Nat.le_trans (List.length_filter_le _ _) hw)
  · have z : SzL n { L with way := L.way.filter fun e => decide (e.1 ≠ p) } := ⟨hu, hw⟩
    obtain ⟨a, _, c⟩ := z.laid rm t p (if (L.way.filter fun e => decide (e.1 ≠ p)).length = L.way.length then "miss" else "late" : Str) old
    exact ⟨a, c⟩
theorem SzL.deed {n : Nat} {L : LS} (h : SzL n L) (d : Deed) : SzL n (deedL d L) := by
  obtain ⟨p, v⟩ := d
  cases v with
  | none => exact ⟨h.u, h.w⟩
  | some v => exact ⟨h.u, h.w⟩
theorem SzL.starts {pl ms t : Int} : ∀ (gs : List Int) {n : Nat} {L : LS}, SzL n L → SzL n (gs.foldl (startL pl ms t) L)
  | [], _, _, h => h
  | g :: gs, n, L, h => by
    refine SzL.starts gs ?_
    unfold startL
    split
    · exact ⟨h.u, h.w⟩
    · exact h
theorem laidL_an (rm t p : Int) (w : Str) (old : Int) (L : LS) : (laidL rm t p w old L).answers = L.answers := by
  unfold laidL
  split <;> rfl
theorem comes_an (rm t : Int) : ∀ (W : List (Int × Int)) (L : LS), (W.foldl (comeL rm t) L).answers = L.answers
  | [], _ => rfl
  | e :: W, L => (comes_an rm t W _).trans (laidL_an rm t e.1 "come" (oldL L) L)
theorem askedL_an (rm t p old : Int) (L : LS) : (askedL rm t p old L).answers = L.answers := by
  unfold askedL
  split
  · rfl
  · exact laidL_an _ _ _ _ _ _
theorem midL_an (c : Cfg) (t : Int) (L : LS) : (midL c t L).answers = L.answers := comes_an c.rm t _ L
theorem askedL_st (rm t p old : Int) (L : LS) : (askedL rm t p old L).story.length ≤ L.story.length + 2 ∧ (askedL rm t p old L).way.length ≤ L.way.length := by
  unfold askedL
  split
  · refine ⟨?_, Nat.le_refl _⟩
    show (L.story ++ [_]).length ≤ _
    rw [List.length_append]
    exact Nat.le_succ _
  · have z : SzL ((putI L.used p 0).length + L.used.length + L.waits.length) { L with way := L.way.filter fun e => decide (e.1 ≠ p) } := ⟨by show L.used.length ≤ _; omega, by show L.waits.length ≤ _; omega⟩
    obtain ⟨_, b, _⟩ := z.laid rm t p (if (L.way.filter fun e => decide (e.1 ≠ p)).length = L.way.length then "miss" else "late" : Str) old
    refine ⟨b, ?_⟩
    rw [laidL_way]
    exact List.length_filter_le _ _
theorem startL_sz {pl ms t : Int} (h : ms ≤ 4) {L : LS} {n : Nat} (h1 : L.way.length ≤ 4) (h2 : L.story.length ≤ n) (g : Int) : (startL pl ms t L g).way.length ≤ 4 ∧ (startL pl ms t L g).story.length ≤ n + 1 := by
  unfold startL
  split
  · rename_i c
    have c3 := c.2.2
    refine ⟨?_, ?_⟩
    · show (L.way ++ [_]).length ≤ 4
      rw [List.length_append]
      show L.way.length + 1 ≤ 4
      omega
    · show (L.story ++ [_]).length ≤ n + 1
      rw [List.length_append]
      exact Nat.succ_le_succ h2
  · exact ⟨h1, Nat.le_succ_of_le h2⟩
theorem deedL_st (d : Deed) (L : LS) : (deedL d L).story = L.story ∧ (deedL d L).way = L.way := by
  obtain ⟨p, v⟩ := d
  cases v <;> exact ⟨rfl, rfl⟩
/-! the run -/
def runL (s : Stg) (g : G) (ds : List Deed) : Nat → LS
  | 0 => ⟨s.mem, [], [], [], [], [], [], 0⟩
  | i + 1 => match ds[i]? with
    | none => runL s g ds i
    | some d => turnL (cfgOf s g) ((i : Nat) : Int) d (stepG g (runTo s g ds i).st.2.2 d.1).2 (runL s g ds i)
theorem runTo_succ {s : Stg} {g : G} {ds : List Deed} {i : Nat} {d : Deed} (h : ds[i]? = some d) : runTo s g ds (i + 1) = deedS (cfgOf s g) ((i : Nat) : Int) d (runTo s g ds i) := by
  show (match ds[i]? with | none => _ | some d => _) = _
  rw [h]
theorem runL_succ {s : Stg} {g : G} {ds : List Deed} {i : Nat} {d : Deed} (h : ds[i]? = some d) : runL s g ds (i + 1) = turnL (cfgOf s g) ((i : Nat) : Int) d (stepG g (runTo s g ds i).st.2.2 d.1).2 (runL s g ds i) := by
  show (match ds[i]? with | none => _ | some d => _) = _
  rw [h]
theorem runL_rel {s : Stg} {g : G} (hs : s.Good) (hg : good 3 g = true) {ds : List Deed} (hd : ∀ d ∈ ds, Deed.Good ((s.mem.length : Nat) : Int) d) : ∀ i, i ≤ ds.length → RR (cfgOf s g) ((i : Nat) - 1 : Int) (runTo s g ds i) (runL s g ds i)
  | 0, _ => ⟨⟨List.nodup_nil, fun _ => Iff.rfl, List.nodup_nil, fun _ h => (nomatch h), List.Pairwise.nil, fun _ h => (nomatch h), fun _ h => (nomatch h), fun _ h => (nomatch h)⟩, rfl, fun _ h => (nomatch h), rfl, fun _ => rfl, rfl, rfl⟩
  | i + 1, hi => by
    have ih := runL_rel hs hg hd i (by omega)
    have iv := runTo_inv hs hg hd i (by omega)
    have hi' : i < ds.length := hi
    have gd := hd _ (List.getElem_mem hi')
    rw [runL_succ (List.getElem?_eq_getElem hi'), runTo_succ (List.getElem?_eq_getElem hi')]
    have := turn_rel (cfg_ok hs hg) hs.l1 (t := ((i : Nat) : Int)) iv gd ih
    have ez : (((i + 1 : Nat) : Nat) - 1 : Int) = ((i : Nat) : Int) := by omega
    rw [ez]
    exact this
theorem runTo_kn {s : Stg} {g : G} {ds : List Deed} : ∀ i, i ≤ ds.length → (runTo s g ds i).st.2.2 = stG g ((ds.map (·.1)).take i)
  | 0, _ => by rw [List.take_zero]; rfl
  | i + 1, hi => by
    have ih := runTo_kn (s := s) (g := g) (ds := ds) i (by omega)
    have hi' : i < ds.length := hi
    have e : (ds.map (·.1)).take (i + 1) = (ds.map (·.1)).take i ++ [ds[i].1] := by
      rw [List.take_add_one, List.getElem?_map, List.getElem?_eq_getElem hi']
      rfl
    rw [e, stG_snoc, ← ih, runTo_succ (List.getElem?_eq_getElem hi')]
    show (doD ds[i] _).st.2.2 = _
    have hst := (evs_st ((i : Nat) : Int) (goC (cfgOf s g) (runTo s g ds i).st ds[i].1).2 { runTo s g ds i with st := (goC (cfgOf s g) (runTo s g ds i).st ds[i].1).1 }).1
    have ed : ∀ u : RunS, (doD ds[i] u).st = u.st := fun u => by
      unfold doD
      split <;> rfl
    rw [ed, hst]
    rfl
theorem runL_sz {s : Stg} {g : G} {ds : List Deed} (hs : s.Good) (hg : good 3 g = true) (hd : ∀ d ∈ ds, Deed.Good ((s.mem.length : Nat) : Int) d) : ∀ i, i ≤ ds.length → SzL (10 * i) (runL s g ds i)
  | 0, _ => ⟨Nat.le_refl _, Nat.le_refl _⟩
  | i + 1, hi => by
    have ih := runL_sz hs hg hd i (by omega)
    have iv := runTo_inv hs hg hd i (by omega)
    have rr := runL_rel hs hg hd i (by omega)
    have hi' : i < ds.length := hi
    rw [runL_succ (List.getElem?_eq_getElem hi')]
    have lw : (runL s g ds i).way.length ≤ 4 := by
      have z := iv.iv.l2
      rw [rr.wy, List.length_map] at z
      have := hs.w2
      have z : (((runL s g ds i).way.length : Nat) : Int) ≤ s.ms := z
      omega
    generalize runL s g ds i = L at ih lw ⊢
    have fl : (L.way.filter fun e => decide (e.2 + (cfgOf s g).lt < ((i : Nat) : Int))).length ≤ 4 := Nat.le_trans (List.length_filter_le _ _) lw
    have c1 := (SzL.comes (rm := (cfgOf s g).rm) (t := ((i : Nat) : Int)) (L.way.filter fun e => decide (e.2 + (cfgOf s g).lt < ((i : Nat) : Int))) ih _ (Nat.le_refl _)).1
    rw [List.take_length] at c1
    have c2 : SzL (10 * i + 4) (midL (cfgOf s g) ((i : Nat) : Int) L) := ⟨Nat.le_trans c1.u (by omega), Nat.le_trans c1.w (by omega)⟩
    exact (((c2.asked (cfgOf s g).rm ((i : Nat) : Int) ds[i].1 (oldL (midL (cfgOf s g) ((i : Nat) : Int) L))).1.deed ds[i]).starts _).mono (by omega)
end St

namespace St
open PySem PySem.Spec PyProof.Rows L2
abbrev s__law_run : Stmt := topS 47
abbrev N__law_run : List Str := ["_law_setting_here", "_law_guesser_here", "_law_row", "_law_memory", "_law_room", "_law_late", "_law_most", "_law_s", "_law_turn", "_law_place", "_law_one", "_law_begin", "_law_there", "_law_pair", "_law_deed"]
abbrev p__law_run : List Str := ["_law_setting_here", "_law_guesser_here", "_law_row"]
theorem sc__law_run : FnScope N__law_run p__law_run (defScope s__law_run) := ⟨rfl, rfl, rfl, by decide +kernel, rfl, by decide +kernel, by decide +kernel⟩
section
variable {P : Program} {w : World} {K : PySem.W.Frag} {mg : Str → Option Value} {base : Heap} {f f1 f2 f3 : Addr} {fd fd1 fd2 fd3 : FuncData}
def spLR (K : PySem.W.Frag) : Sp := fun vs H Q _ => ∃ (sa ra : Addr) (v : V) (s : Stg) (g : G) (as : List Addr) (ds : List Deed), vs = [.ref sa, v, .ref ra] ∧ IsSet K H sa s ∧ s.Good ∧ IsG K H g v ∧ good 3 g = true ∧ SqL K H ra (as.map V.ref) ∧ PrD K H as ds ∧ (∀ d ∈ ds, Deed.Good ((s.mem.length : Nat) : Int) d) ∧ ds.length ≤ 100 ∧
  ∀ p cA uA wA yA lA sA aA H', LsO K H H' p cA uA wA yA lA sA aA (runL s g ds ds.length) → Q (.ref p) H'
theorem ok__law_run (T : Nms mg) (D__law_laid : Df K mg "_law_laid" s__law_laid p__law_laid f1 fd1) (D__law_asked : Df K mg "_law_asked" s__law_asked p__law_asked f2 fd2) (D__law_guessed : Df K mg "_law_guessed" s__law_guessed p__law_guessed f3 fd3) (F : Fun K "_law_run" "_law_run" s__law_run f fd) : FnOk P w K mg base CX0 5 f fd p__law_run (spLR K) := by
  have G__law_laid : FnOk P w K mg base CX0 1 f1 fd1 p__law_laid (spLL K) := ok__law_laid T D__law_laid.F
  have G__law_asked : FnOk P w K mg base CX0 2 f2 fd2 p__law_asked (spLA K) := ok__law_asked T D__law_laid D__law_asked.F
  have G__law_guessed : FnOk P w K mg base CX0 4 f3 fd3 p__law_guessed (spGuessed K 4) := ok__law_guessed T D__law_guessed 4
  refine F.ok sc__law_run (fun vs H Q E h => ?_) (fun cdv A outer s H vs Q E hr h => ?_)
  · obtain ⟨sa, ra, v, s, g, as, ds, rfl, _⟩ := h
    rfl
  obtain ⟨sa, ra, v, s, g, as, ds, rfl, ⟨m, h1, h2⟩, gS, hG, hg, hra, pd, gd, hl, q⟩ := h
  refine ⟨_, (pss_cons (ps_asg (pv 0) (pg_tup rfl (pgs_cons (pg_name (i := 3) sc__law_run.nd rfl (Or.inl rfl)) (pgs_cons (pg_name (i := 4) sc__law_run.nd rfl (Or.inl rfl)) (pgs_cons (pg_name (i := 5) sc__law_run.nd rfl (Or.inr rfl)) (pgs_cons (pg_name (i := 6) sc__law_run.nd rfl (Or.inl rfl)) pgs_nil))))))
  (pss_cons (ps_set (i := 7) sc__law_run.nd rfl (Or.inl rfl) (pe_disp (pps_cons pe_str (pe_callTy call_list_of (by rfl) T.n_list (by decide +kernel) (pa_cons (pv 3) pa_nil)) (pps_cons pe_str pe_dnewK (pps_cons pe_str (pe_lst pa_nil) (pps_cons pe_str (pe_lst pa_nil) (pps_cons pe_str pe_dnewK (pps_cons pe_str (pe_lst pa_nil) (pps_cons pe_str (pe_lst pa_nil) (pps_cons pe_str pe_int pps_nil)))))))) (by rfl) (by rfl) (fun z => by cases z) (by decide)))
  (pss_cons (ps_for PassesOwn.never rfl (pi_range1 rfl T.n_range (pa_cons (pe_callB call_len_seq (by rfl) T.n_len (by decide +kernel) (pa_cons (pv 2) pa_nil)) pa_nil)) (pg_name (i := 8) sc__law_run.nd rfl (Or.inr rfl))
    (pss_cons (ps_set (i := 9) sc__law_run.nd rfl (Or.inl rfl) (pe_ix ix_tup (pe_ix ix_list (pv 2) (pv 8) (fun _ _ => rfl)) pe_int (fun _ _ => rfl)))
    (pss_cons (ps_for PassesOwn.never rfl (pi_list (pe_lc (own := [("_law_pair", 13)]) (g := gName 13) rfl sc__law_run.nd (pi_list (pe_dget (hu_of hr) (pv 7) pe_str (fun _ _ => rfl))) (blkOk_by (own := [("_law_pair", 13)]) (N := N__law_run) (sc := defScope s__law_run) (by decide +kernel)) (fun _ _ _ _ _ => pg_name (i := 13) sc__law_run.nd rfl (Or.inl rfl)) (fun _ _ _ _ _ => pts_one (pt_cmpR op_lt (pe_op op_add (pe_ix (ix_tupK (K := K)) (pv 13) pe_int (fun _ _ => rfl)) (pv 5)) (pv 8) (nomark _))) (fun _ _ _ _ _ => (pv 13)))) (pg_tup rfl (pgs_cons (pg_name (i := 10) sc__law_run.nd rfl (Or.inl rfl)) (pgs_cons (pg_name (i := 11) sc__law_run.nd rfl (Or.inl rfl)) pgs_nil)))
      (pss_cons (ps_expr (pe_call G__law_laid (hr.mono (by first | decide | omega)) (by rfl) D__law_laid.m D__law_laid.F.kp D__law_laid.b .nil pass0 (pa_cons (pv 7) (pa_cons (pv 4) (pa_cons (pv 8) (pa_cons (pv 10) (pa_cons pe_str pa_nil)))))))
      (pss_one (ps_expr (pe_bm PySem.F.plainAttrs_list PySem.F.slot_list_append PySem.F.type_list_append mt_append (pe_dget (hu_of hr) (pv 7) pe_str (fun _ _ => rfl)) (pa_cons (pv 10) pa_nil))))))
    (pss_cons (ps_dput (hu_of hr) (pv 7) pe_str (pe_lc (own := [("_law_pair", 13)]) (g := gName 13) rfl sc__law_run.nd (pi_list (pe_dget (hu_of hr) (pv 7) pe_str (fun _ _ => rfl))) (blkOk_by (own := [("_law_pair", 13)]) (N := N__law_run) (sc := defScope s__law_run) (by decide +kernel)) (fun _ _ _ _ _ => pg_name (i := 13) sc__law_run.nd rfl (Or.inl rfl)) (fun _ _ _ _ _ => pts_one (pt_cmpR op_ge (pe_op op_add (pe_ix (ix_tupK (K := K)) (pv 13) pe_int (fun _ _ => rfl)) (pv 5)) (pv 8) (nomark _))) (fun _ _ _ _ _ => (pv 13))) rfl)
    (pss_cons (ps_expr (pe_call G__law_asked (hr.mono (by first | decide | omega)) (by rfl) D__law_asked.m D__law_asked.F.kp D__law_asked.b .nil pass0 (pa_cons (pv 7) (pa_cons (pv 4) (pa_cons (pv 8) (pa_cons (pv 9) pa_nil))))))
    (Evl.pss_cut (ps_if (pt_cmpR op_eq (pe_ix ix_tup (pe_ix ix_list (pv 2) (pv 8) (fun _ _ => rfl)) pe_int (fun _ _ => rfl)) pe_str (nomark _))
      (pss_one (ps_expr (pe_bm PySem.F.plainAttrs_list PySem.F.slot_list_append PySem.F.type_list_append mt_append (pe_dget (hu_of hr) (pv 7) pe_str (fun _ _ => rfl)) (pa_cons (pe_dget (hu_of hr) (pe_dget (hu_of hr) (pv 7) pe_str (fun _ _ => rfl)) (pv 9) (fun _ _ => rfl)) pa_nil))))
      (pss_cons (ps_dput (hu_of hr) (pe_dget (hu_of hr) (pv 7) pe_str (fun _ _ => rfl)) (pv 9) (pe_ix ix_tup (pe_ix ix_list (pv 2) (pv 8) (fun _ _ => rfl)) pe_int (fun _ _ => rfl)) rfl)
      (pss_one (ps_asg (pe_ix ix_tup (pe_ix ix_list (pv 2) (pv 8) (fun _ _ => rfl)) pe_int (fun _ _ => rfl)) (pg_sub (pe_dget (hu_of hr) (pv 7) pe_str (fun _ _ => rfl)) (pv 9) set_list)))))
    (pss_one (ps_for PassesOwn.never rfl (pi_list (pe_call G__law_guessed (hr.mono (by first | decide | omega)) (by rfl) D__law_guessed.m D__law_guessed.F.kp D__law_guessed.b .nil pass0 (pa_cons (pv 1) (pa_cons (pe_lc (own := [("_law_deed", 14)]) (g := gName 14) rfl sc__law_run.nd (pi_list (pe_slice sl_list (pv 2) po_none (po_some (pe_op op_add (pv 8) pe_int)))) (blkOk_by (own := [("_law_deed", 14)]) (N := N__law_run) (sc := defScope s__law_run) (by decide +kernel)) (fun _ _ _ _ _ => pg_name (i := 14) sc__law_run.nd rfl (Or.inl rfl)) (fun _ _ _ _ _ => pts_nil) (fun _ _ _ _ _ => (pe_ix (ix_tupK (K := K)) (pv 14) pe_int (fun _ _ => rfl)))) pa_nil)))) (pg_name (i := 10) sc__law_run.nd rfl (Or.inl rfl))
      (Evl.pss_cut (ps_set (i := 12) sc__law_run.nd rfl (Or.inl rfl) (pe_or (pe_cmp (pc_din (hu_of hr) (pv 10) (pe_dget (hu_of hr) (pv 7) pe_str (fun _ _ => rfl))) rfl) (pe_one (pe_cmpR op_in_seq (pv 10) (pe_lc (own := [("_law_pair", 13)]) (g := gName 13) rfl sc__law_run.nd (pi_list (pe_dget (hu_of hr) (pv 7) pe_str (fun _ _ => rfl))) (blkOk_by (own := [("_law_pair", 13)]) (N := N__law_run) (sc := defScope s__law_run) (by decide +kernel)) (fun _ _ _ _ _ => pg_name (i := 13) sc__law_run.nd rfl (Or.inl rfl)) (fun _ _ _ _ _ => pts_nil) (fun _ _ _ _ _ => (pe_ix (ix_tupK (K := K)) (pv 13) pe_int (fun _ _ => rfl)))) (by with_unfolding_all rfl)))))
      (pss_one (ps_if (PW.pt (pw_and (pt_chain op_le op_lt pe_int (pv 10) (pe_callB call_len_seq (by rfl) T.n_len (by decide +kernel) (pa_cons (pv 3) pa_nil))) (pw_and (pt_not (pt_val (pv 12))) (pw_and1 (pt_cmpR op_lt (pe_callB call_len_seq (by rfl) T.n_len (by decide +kernel) (pa_cons (pe_dget (hu_of hr) (pv 7) pe_str (fun _ _ => rfl)) pa_nil)) (pv 6) (nomark _))))))
        (pss_cons (ps_expr (pe_bm PySem.F.plainAttrs_list PySem.F.slot_list_append PySem.F.type_list_append mt_append (pe_dget (hu_of hr) (pv 7) pe_str (fun _ _ => rfl)) (pa_cons (pe_tup (pa_cons (pv 10) (pa_cons (pv 8) pa_nil))) pa_nil)))
        (pss_one (ps_expr (pe_bm PySem.F.plainAttrs_list PySem.F.slot_list_append PySem.F.type_list_append mt_append (pe_dget (hu_of hr) (pv 7) pe_str (fun _ _ => rfl)) (pa_cons (pe_tup (pa_cons (pv 8) (pa_cons pe_str (pa_cons (pv 10) pa_nil)))) pa_nil)))))
        (pss_nil))))))))))))
  (pss_one (ps_ret (pv 7)))))), ?_⟩
  refine ⟨_, rfl, sa, _, rfl, h1, rfl, _, _, rfl, _, _, rfl, _, _, rfl, _, _, rfl, rfl, ?_⟩
  and_intros
  intro p np
  have h2p := same_t (same_upd (o := .dK []) np) h2
  refine ⟨_, rfl, m, _, rfl, .inr h2p, fun cA nc => ?_⟩
  have s1 : Same H (upd H p (.dK [])) := same_upd np
  have ep1 : (upd H p (.dK [])) p = some (.dK []) := upd_same
  generalize upd H p (.dK []) = H1 at s1 ep1 nc ⊢
  intro uA nu
  have s2 : Same H1 (upd H1 cA (.lst (s.mem.map V.int))) := same_upd nc
  have ec2 : (upd H1 cA (.lst (s.mem.map V.int))) cA = some (.lst (s.mem.map V.int)) := upd_same
  generalize upd H1 cA (.lst (s.mem.map V.int)) = H2 at s2 ec2 nu ⊢
  refine ⟨Nat.zero_le _, fun wA nw => ?_⟩
  have s3 : Same H2 (upd H2 uA (.dK [])) := same_upd nu
  have eu3 : (upd H2 uA (.dK [])) uA = some (.dK []) := upd_same
  generalize upd H2 uA (.dK []) = H3 at s3 eu3 nw ⊢
  refine ⟨Nat.zero_le _, fun yA ny => ?_⟩
  have s4 : Same H3 (upd H3 wA (.lst [])) := same_upd nw
  have ew4 : (upd H3 wA (.lst [])) wA = some (.lst []) := upd_same
  generalize upd H3 wA (.lst []) = H4 at s4 ew4 ny ⊢
  intro lA nl
  have s5 : Same H4 (upd H4 yA (.lst [])) := same_upd ny
  have ey5 : (upd H4 yA (.lst [])) yA = some (.lst []) := upd_same
  generalize upd H4 yA (.lst []) = H5 at s5 ey5 nl ⊢
  refine ⟨Nat.zero_le _, fun sA ns => ?_⟩
  have s6 : Same H5 (upd H5 lA (.dK [])) := same_upd nl
  have el6 : (upd H5 lA (.dK [])) lA = some (.dK []) := upd_same
  generalize upd H5 lA (.dK []) = H6 at s6 el6 ns ⊢
  refine ⟨Nat.zero_le _, fun aA na => ?_⟩
  have s7 : Same H6 (upd H6 sA (.lst [])) := same_upd ns
  have es7 : (upd H6 sA (.lst [])) sA = some (.lst []) := upd_same
  generalize upd H6 sA (.lst []) = H7 at s7 es7 na ⊢
  have s8 : Same H7 (upd H7 aA (.lst [])) := same_upd na
  have ea8 : (upd H7 aA (.lst [])) aA = some (.lst []) := upd_same
  generalize upd H7 aA (.lst []) = H8 at s8 ea8 ⊢
  have s28 := ((((s3.trans s4).trans s5).trans s6).trans s7).trans s8
  have s38 := (((s4.trans s5).trans s6).trans s7).trans s8
  have s48 := ((s5.trans s6).trans s7).trans s8
  have s58 := (s6.trans s7).trans s8
  have s68 := s7.trans s8
  have s18 := s2.trans s28
  refine ⟨s18 _ _ ep1, ldk cA uA wA yA lA sA aA 0, rfl, (by show 8 ≤ 15; decide), ?_⟩
  rw [show mergeK [] (ldk cA uA wA yA lA sA aA 0) = ldk cA uA wA yA lA sA aA 0 from rfl]
  have o0 : LsO K H (upd H8 p (.dK (ldk cA uA wA yA lA sA aA 0))) p cA uA wA yA lA sA aA (runL s g ds 0) := by
    have p_ : ∀ {x : Addr} {u : HO}, H8 x = some u → x ≠ p → (upd H8 p (.dK (ldk cA uA wA yA lA sA aA 0))) x = some u := fun e n => by rw [upd_ne n]; exact e
    have n_c : cA ≠ p := (ne_of_none ep1 nc).symm
    have n_u : uA ≠ p := (ne_of_none (s2 _ _ ep1) nu).symm
    have n_w : wA ≠ p := (ne_of_none (s3 _ _ (s2 _ _ ep1)) nw).symm
    have n_y : yA ≠ p := (ne_of_none (s4 _ _ (s3 _ _ (s2 _ _ ep1))) ny).symm
    have n_l : lA ≠ p := (ne_of_none (s5 _ _ (s4 _ _ (s3 _ _ (s2 _ _ ep1)))) nl).symm
    have n_s : sA ≠ p := (ne_of_none (s6 _ _ (s5 _ _ (s4 _ _ (s3 _ _ (s2 _ _ ep1))))) ns).symm
    have n_a : aA ≠ p := (ne_of_none (s7 _ _ (s6 _ _ (s5 _ _ (s4 _ _ (s3 _ _ (s2 _ _ ep1)))))) na).symm
    have c3 := s3 _ _ ec2
    have c4 := s4 _ _ c3
    have c5 := s5 _ _ c4
    have c6 := s6 _ _ c5
    have c7 := s7 _ _ c6
    have w5 := s5 _ _ ew4
    have w6 := s6 _ _ w5
    have w7 := s7 _ _ w6
    have y6 := s6 _ _ ey5
    have y7 := s7 _ _ y6
    have u4 := s4 _ _ eu3
    have u5 := s5 _ _ u4
    exact ⟨upd_same, same_mut (s1.trans s18) np, np, s1.free nc, (s1.trans s2).free nu, ((s1.trans s2).trans s3).free nw, (((s1.trans s2).trans s3).trans s4).free ny, ((((s1.trans s2).trans s3).trans s4).trans s5).free nl, (((((s1.trans s2).trans s3).trans s4).trans s5).trans s6).free ns, ((((((s1.trans s2).trans s3).trans s4).trans s5).trans s6).trans s7).free na,
      n_u.symm, n_l.symm, ne_of_none u5 nl, ne_of_none c3 nw, ne_of_none c4 ny, ne_of_none c6 ns, ne_of_none c7 na, ne_of_none ew4 ny, ne_of_none w6 ns, ne_of_none w7 na, ne_of_none y6 ns, ne_of_none y7 na, ne_of_none es7 na,
      p_ (s28 _ _ ec2) n_c, p_ (s38 _ _ eu3) n_u, p_ (s48 _ _ ew4) n_w, ⟨[], p_ (s58 _ _ ey5) n_y, .nil⟩, p_ (s68 _ _ el6) n_l, ⟨[], p_ (s8 _ _ es7) n_s, .nil⟩, p_ ea8 n_a⟩
  generalize upd H8 p (.dK (ldk cA uA wA yA lA sA aA 0)) = H9 at o0 ⊢
  clear s28 s38 s48 s58 s68 s18 s8 s7 s6 s5 s4 s3 s2 s1 ep1 ec2 eu3 ew4 ey5 el6 es7 ea8 h2p nc nu nw ny nl ns na
  have las : as.length = ds.length := Paired.length pd
  have hra9 := same_l o0.s0 hra
  refine ⟨_, rfl, _, _, rfl, .inl hra9, _, rfl, by omega, by rw [List.length_map]; omega, ?_⟩
  rw [show ((((as.map V.ref).length : Nat) : Int)).toNat = ds.length by rw [List.length_map, las]; exact Int.toNat_natCast _]
  refine for_range (lo := 0) (n := ds.length) (fun i σ H' => ∃ wA yA y8 y9 y10 y11 y12, σ = [some (.ref sa), some v, some (.ref ra), some (.ref m), some (.int s.rm), some (.int s.lt), some (.int s.ms), some (.ref p), y8, y9, y10, y11, y12, none, none] ∧ LsO K H H' p cA uA wA yA lA sA aA (runL s g ds i))
    ⟨wA, yA, none, none, none, none, none, rfl, o0⟩ (fun i σ H' hi h => ?_) (fun σ H' h => ?_)
  · obtain ⟨wA, yA, y8, y9, y10, y11, y12, rfl, o⟩ := h
    have ea : (as.map V.ref)[i]? = some (.ref (as[i]'(by omega))) := by rw [List.getElem?_map, List.getElem?_eq_getElem (show i < as.length by omega)]; rfl
    obtain ⟨u, d, eu, hu, _, ed⟩ := pr_at pd ea
    cases eu
    obtain ⟨wd, rest, hsq, hwd⟩ := deed_sq hu
    have gdd := gd _ (List.mem_of_getElem? ed)
    have iv := runTo_inv gS hg gd i (by omega)
    have rr := runL_rel gS hg gd i (by omega)
    have sz := runL_sz gS hg gd i (by omega)
    have kn := runTo_kn (s := s) (g := g) (ds := ds) i (by omega)
    have esucc := runL_succ (s := s) (g := g) ed
    have ez : (0 + (i : Int)) = ((i : Nat) : Int) := by omega
    rw [ez, esucc]
    have lw : (runL s g ds i).way.length ≤ 4 := by
      have z := iv.iv.l2
      rw [rr.wy, List.length_map] at z
      have := gS.w2
      have z : (((runL s g ds i).way.length : Nat) : Int) ≤ s.ms := z
      omega
    have ls : (runL s g ds i).story.length ≤ 4000 := by
      rw [rr.st]
      have := iv.rl
      omega
    have sh0 : ShL (cfgOf s g).pl (cfgOf s g).rm (ks (runL s g ds i).way) (runL s g ds i) := by
      have k1 : ks (runTo s g ds i).st.2.1 = ks (runL s g ds i).way := by rw [rr.wy]; unfold ks; rw [List.map_map]; rfl
      exact ⟨_, rr.R, by rw [← k1]; exact iv.iv.nd, by rw [← k1]; exact iv.iv.rg, iv.iv.l1⟩
    have ce : (((runL s g ds i).cells.length : Nat) : Int) = (cfgOf s g).pl := by rw [rr.ce]; exact iv.ce
    have lan : (runL s g ds i).answers.length ≤ 1000 := by
      rw [rr.an]
      have := iv.al
      omega
    generalize runL s g ds i = L at o rr sz lw ls sh0 ce lan ⊢
    have hra' := same_l o.s0 hra
    have hsq' := same_t o.s0 hsq
    and_intros
    refine ⟨_, _, _, _, rfl, rfl, hra', atI_nat ea, ?_⟩
    and_intros
    refine ⟨p, _, rfl, o.g_way, ?_⟩
    obtain ⟨ys, yy1, yy2⟩ := id o.hy
    have lys : ys.length = L.way.length := Paired.length yy2
    refine ⟨yA, rfl, ⟨_, sql yy1⟩, fun D nD => ?_⟩
    refine lc_list (xs := ys.map V.ref) (fun j H2 => Same H' H2 ∧ ∃ cs : List Addr, H2 D = some (.lst (cs.map V.ref)) ∧ PrW K H2 cs ((L.way.take j).filter (fun e => decide (e.2 + s.lt < ((i : Nat) : Int))))) ⟨same_upd nD, [], upd_same, .nil⟩ (fun j H2 _ h => sql (h.1 _ _ yy1)) (fun j y H2 hj h => ?_) (fun H2 h => ?_)
    ·
      obtain ⟨s3, cs, eD, pc⟩ := h
      obtain ⟨u2, oo, rfl, hu2, tk2, eg2⟩ := pr_at (yy2.imm (Imm.same s3)) hj
      obtain ⟨o1, o2⟩ := oo
      have hu2 : SqT K H2 u2 [.int o1, .int o2] := hu2
      and_intros
      rw [tk2, filter_snoc]
      by_cases co : o2 + s.lt < ((i : Nat) : Int)
      · refine iteB (decide_eq_true co) ?_
        have lc : cs.length ≤ L.way.length := by
          rw [Paired.length pc]
          refine Nat.le_trans (List.length_filter_le _ _) ?_
          rw [List.length_take]
          exact Nat.min_le_right _ _
        refine ⟨_, rfl, _, eD, by rw [List.length_map]; exact szl (by omega), same_mut s3 nD, cs ++ [u2], by rw [upd_same, List.map_append]; rfl, ?_⟩
        rw [if_pos (by simp [co])]
        exact Paired.snoc (pc.imm (Imm.upd ⟨_, eD⟩)) ((Imm.upd ⟨_, eD⟩).t hu2)
      · refine iteB0 (decide_eq_false co) ?_
        rw [if_neg (by simp [co]), List.append_nil]
        exact ⟨s3, cs, eD, pc⟩
    · obtain ⟨s3, cs, eD, pc⟩ := h
      rw [show L.way.take (ys.map V.ref).length = L.way by rw [List.length_map, lys]; exact List.take_length] at pc
      have oM := o.same s3
      obtain ⟨oB, sB⟩ := oM.max
      have hDB : mb H2 [p, cA, uA, wA, yA, lA, sA, aA] D = some (.lst (cs.map V.ref)) := by
        have : D ∉ [p, cA, uA, wA, yA, lA, sA, aA] := fun hz => by
          obtain ⟨ss, ss1, _⟩ := o.hs
          simp only [List.mem_cons, List.not_mem_nil, or_false] at hz
          rcases hz with rfl | rfl | rfl | rfl | rfl | rfl | rfl | rfl
          · rw [o.ob] at nD; cases nD
          · rw [o.hc] at nD; cases nD
          · rw [o.hu] at nD; cases nD
          · rw [o.hw] at nD; cases nD
          · rw [yy1] at nD; cases nD
          · rw [o.hl] at nD; cases nD
          · rw [ss1] at nD; cases nD
          · rw [o.ha] at nD; cases nD
        show (if D ∈ _ then none else H2 D) = _
        rw [if_neg this]
        exact eD
      generalize mb H2 [p, cA, uA, wA, yA, lA, sA, aA] = HB at oB sB hDB
      have lF : (L.way.filter (fun e => decide (e.2 + s.lt < ((i : Nat) : Int)))).length ≤ 4 := Nat.le_trans (List.length_filter_le _ _) lw
      have rmE : (cfgOf s g).rm = s.rm := rfl
      have shF : ShL (cfgOf s g).pl (cfgOf s g).rm (ks (L.way.filter (fun e => decide (e.2 + s.lt < ((i : Nat) : Int))))) L := by
        obtain ⟨sh, R, nd, rg, hl2⟩ := sh0
        have sub : (ks (L.way.filter (fun e => decide (e.2 + s.lt < ((i : Nat) : Int))))).Sublist (ks L.way) := List.filter_sublist.map _
        refine ⟨sh, R, ?_, fun q hq => ?_, hl2⟩
        · exact nd.sublist (List.Sublist.append_left sub _)
        · rcases List.mem_append.mp hq with hq | hq
          · exact rg q (List.mem_append_left _ hq)
          · exact rg q (List.mem_append_right _ (sub.subset hq))
      have pre := comes_pre (t := ((i : Nat) : Int)) gS.r1 (L.way.filter (fun e => decide (e.2 + s.lt < ((i : Nat) : Int)))) L shF
      have szp := SzL.comes (rm := s.rm) (t := ((i : Nat) : Int)) (L.way.filter (fun e => decide (e.2 + s.lt < ((i : Nat) : Int)))) sz
      have hcomes : comesL s.rm ((i : Nat) : Int) s.lt L = (L.way.filter (fun e => decide (e.2 + s.lt < ((i : Nat) : Int)))).foldl (comeL s.rm ((i : Nat) : Int)) L := rfl
      generalize hF : L.way.filter (fun e => decide (e.2 + s.lt < ((i : Nat) : Int))) = F at pc lF pre szp hcomes
      have lcs : cs.length = F.length := Paired.length pc
      refine ⟨D, rfl, ⟨_, sql eD⟩, ?_⟩
      refine for_list (xs := cs.map V.ref) (fun j σ H3 => ∃ wA y10 y11, σ = [some (.ref sa), some v, some (.ref ra), some (.ref m), some (.int s.rm), some (.int s.lt), some (.int s.ms), some (.ref p), some (.int ((i : Nat) : Int)), some (.int d.1), y10, y11, y12, none, none] ∧ Imm H2 H3 ∧ LsO K HB H3 p cA uA wA yA lA sA aA ((F.take j).foldl (comeL s.rm ((i : Nat) : Int)) L))
        ⟨wA, _, _, rfl, Imm.refl _, oB⟩ (fun j σ H3 _ h => ?_) (fun j x σ H3 hj h => ?_) (fun σ H3 h => ?_)
      · obtain ⟨wA, y10, y11, rfl, _, oj⟩ := h
        exact sql (oj.s0 _ _ hDB)
      ·
        obtain ⟨wA, y10, y11, rfl, imj, oj⟩ := h
        obtain ⟨u2, oo, rfl, hu2, tk2, eg2⟩ := pr_at (pc.imm imj) hj
        have hj' : j < F.length := (List.getElem?_eq_some_iff.mp eg2).1
        obtain ⟨z1, z2, z3⟩ := szp j (by omega)
        have shj := pre j (by omega)
        have dr : F.drop j = oo :: F.drop (j + 1) := by
          rw [List.drop_eq_getElem_cons hj']
          have : F[j] = oo := by
            rw [List.getElem?_eq_getElem hj'] at eg2
            exact Option.some.inj eg2
          rw [this]
        have ef : (F.take (j + 1)).foldl (comeL s.rm ((i : Nat) : Int)) L = comeL s.rm ((i : Nat) : Int) ((F.take j).foldl (comeL s.rm ((i : Nat) : Int)) L) oo := by rw [tk2, List.foldl_append]; rfl
        rw [ef]
        have shj : ShL (cfgOf s g).pl (cfgOf s g).rm (ks (F.drop j)) ((F.take j).foldl (comeL s.rm ((i : Nat) : Int)) L) := shj
        generalize (F.take j).foldl (comeL s.rm ((i : Nat) : Int)) L = Lj at oj z1 z2 z3 shj ef ⊢
        obtain ⟨o1, o2⟩ := oo
        have hu2 : SqT K H3 u2 [.int o1, .int o2] := hu2
        have rgo : 0 ≤ o1 ∧ o1 < (cfgOf s g).pl := by
          obtain ⟨sh, _, _, rg, _⟩ := shj
          rw [dr] at rg
          exact rg o1 (List.mem_append_right _ (List.mem_cons_self ..))
        have ok := shj.ok gS.r1 gS.r2 rgo (by rw [z3]; exact ce) (Nat.le_trans z1.u (by omega)) (Nat.le_trans z1.w (by omega)) (by omega)
        refine ⟨u2, _, rfl, hu2, rfl, _, _, rfl, _, _, rfl, rfl, ?_⟩
        refine ⟨_, rfl, _, rfl, _, rfl, _, rfl, p, cA, uA, wA, yA, lA, sA, aA, Lj, HB, s.rm, ((i : Nat) : Int), o1, oldL Lj, "come", rfl, oj, ok, fun wA' H4 im4 o4 => ?_⟩
        refine ⟨_, rfl, p, _, rfl, o4.g_waits, .inl ⟨rfl, _, sql o4.hw⟩, ?_⟩
        refine ⟨_, rfl, _, _, _, rfl, rfl, o4.hw, ?_, ?_⟩
        · rw [List.length_map]
          have zl := (z1.laid s.rm ((i : Nat) : Int) o1 "come" (oldL Lj)).1.w
          exact szl (by omega)
        · have o5 := o4.wai ((laidL s.rm ((i : Nat) : Int) o1 "come" (oldL Lj) Lj).waits ++ [o1])
          rw [List.map_append] at o5
          exact ⟨wA', _, _, rfl, (imj.trans im4).trans (Imm.upd ⟨_, o4.hw⟩), o5⟩
      · obtain ⟨wA, y10, y11, rfl, imj, oj⟩ := h
        obtain ⟨z1, z2, z3⟩ := szp F.length (Nat.le_refl _)
        have shj := pre F.length (Nat.le_refl _)
        rw [show F.take (cs.map V.ref).length = F by rw [List.length_map, lcs]; exact List.take_length, ← hcomes] at oj
        rw [List.take_length, ← hcomes] at z1 z2 z3
        rw [List.take_length, List.drop_length] at shj
        have shj : ShL (cfgOf s g).pl (cfgOf s g).rm [] (comesL s.rm ((i : Nat) : Int) s.lt L) := by rw [hcomes]; exact shj
        have wayE : (comesL s.rm ((i : Nat) : Int) s.lt L).way = L.way := comes_way s.rm _ _ L
        have midE : midL (cfgOf s g) ((i : Nat) : Int) L = { comesL s.rm ((i : Nat) : Int) s.lt L with way := (comesL s.rm ((i : Nat) : Int) s.lt L).way.filter fun e => decide (((i : Nat) : Int) ≤ e.2 + s.lt) } := rfl
        generalize comesL s.rm ((i : Nat) : Int) s.lt L = L1 at oj z1 z2 z3 shj wayE midE
        have oj := oj.weak sB
        have lw1 : L1.way.length ≤ 4 := by rw [wayE]; exact lw
        refine ⟨_, rfl, p, _, rfl, oj.g_way, ?_⟩
        obtain ⟨ys2, yz1, yz2⟩ := id oj.hy
        have lys2 : ys2.length = L1.way.length := Paired.length yz2
        refine ⟨yA, rfl, ⟨_, sql yz1⟩, fun E nE => ?_⟩
        refine lc_list (xs := ys2.map V.ref) (fun j H4 => Same H3 H4 ∧ ∃ cs : List Addr, H4 E = some (.lst (cs.map V.ref)) ∧ PrW K H4 cs ((L1.way.take j).filter (fun e => decide (((i : Nat) : Int) ≤ e.2 + s.lt)))) ⟨same_upd nE, [], upd_same, .nil⟩ (fun j H4 _ h => sql (h.1 _ _ yz1)) (fun j y H4 hj h => ?_) (fun H4 h => ?_)
        ·
          obtain ⟨s5, cs, eD, pc⟩ := h
          obtain ⟨u2, oo, rfl, hu2, tk2, eg2⟩ := pr_at (yz2.imm (Imm.same s5)) hj
          obtain ⟨o1, o2⟩ := oo
          have hu2 : SqT K H4 u2 [.int o1, .int o2] := hu2
          and_intros
          rw [tk2, filter_snoc]
          by_cases co : ((i : Nat) : Int) ≤ o2 + s.lt
          · refine iteB (decide_eq_true co) ?_
            have lc : cs.length ≤ L1.way.length := by
              rw [Paired.length pc]
              refine Nat.le_trans (List.length_filter_le _ _) ?_
              rw [List.length_take]
              exact Nat.min_le_right _ _
            refine ⟨_, rfl, _, eD, by rw [List.length_map]; exact szl (by omega), same_mut s5 nE, cs ++ [u2], by rw [upd_same, List.map_append]; rfl, ?_⟩
            rw [if_pos (by simp [co])]
            exact Paired.snoc (pc.imm (Imm.upd ⟨_, eD⟩)) ((Imm.upd ⟨_, eD⟩).t hu2)
          · refine iteB0 (decide_eq_false co) ?_
            rw [if_neg (by simp [co]), List.append_nil]
            exact ⟨s5, cs, eD, pc⟩
        · obtain ⟨s5, cs5, eE, pc5⟩ := h
          rw [show L1.way.take (ys2.map V.ref).length = L1.way by rw [List.length_map, lys2]; exact List.take_length] at pc5
          have o6 := oj.same s5
          refine ⟨_, rfl, p, _, rfl, DPut.k (k := Sum.inr "way") o6.ob (by show 8 < sizeLine; decide), ?_⟩
          rw [pd_way]
          have o7 := oj.wayN s5 nE ⟨cs5, eE, pc5⟩
          rw [← midE] at o7
          have mwL : (midL (cfgOf s g) ((i : Nat) : Int) L).way.length ≤ 4 := by rw [midE]; exact Nat.le_trans (List.length_filter_le _ _) lw1
          have mz : SzL (10 * i + F.length) (midL (cfgOf s g) ((i : Nat) : Int) L) := by rw [midE]; exact ⟨z1.u, z1.w⟩
          have ms : (midL (cfgOf s g) ((i : Nat) : Int) L).story.length ≤ 5000 := by rw [midE]; show L1.story.length ≤ 5000; omega
          have mc : (((midL (cfgOf s g) ((i : Nat) : Int) L).cells.length : Nat) : Int) = (cfgOf s g).pl := by rw [midE]; show ((L1.cells.length : Nat) : Int) = _; rw [z3]; exact ce
          have msh : ShL (cfgOf s g).pl (cfgOf s g).rm [] (midL (cfgOf s g) ((i : Nat) : Int) L) := by rw [midE]; exact shj.way _
          have eturn : turnL (cfgOf s g) ((i : Nat) : Int) d (stepG g (runTo s g ds i).st.2.2 d.1).2 L = (stepG g (runTo s g ds i).st.2.2 d.1).2.foldl (startL (cfgOf s g).pl (cfgOf s g).ms ((i : Nat) : Int)) (deedL d (askedL (cfgOf s g).rm ((i : Nat) : Int) d.1 (oldL (midL (cfgOf s g) ((i : Nat) : Int) L)) (midL (cfgOf s g) ((i : Nat) : Int) L))) := rfl
          rw [eturn]
          have man : (midL (cfgOf s g) ((i : Nat) : Int) L).answers.length ≤ 1000 := by rw [midL_an]; exact lan
          generalize midL (cfgOf s g) ((i : Nat) : Int) L = LM at o7 mwL mz ms mc msh man ⊢
          generalize upd H4 p (.dK (ldk cA uA wA E lA sA aA L1.clock)) = H5 at o7 ⊢
          clear o6 pc5 eE s5 yz1 yz2 oj shj z1 z2 z3 pre szp
          have okA := msh.ok (p := d.1) gS.r1 gS.r2 (Deed.pl gdd) mc (Nat.le_trans mz.u (by omega)) (Nat.le_trans mz.w (by omega)) (by omega)
          refine ⟨_, rfl, _, rfl, _, rfl, _, rfl, p, cA, uA, wA, E, lA, sA, aA, LM, H, s.rm, ((i : Nat) : Int), d.1, oldL LM, rfl, o7, by omega, Nat.le_trans mz.w (by omega), Nat.le_trans mz.u (by omega), by omega, fun _ => okA, fun wA' yA' H6 im6 o8r => ?_⟩
          have o8 : LsO K H H6 p cA uA wA' yA' lA sA aA (askedL (cfgOf s g).rm ((i : Nat) : Int) d.1 (oldL LM) LM) := o8r
          clear o8r
          obtain ⟨shA, RA, pA, lsA'⟩ := msh.asked (t := ((i : Nat) : Int)) (p := d.1) gS.r1
          obtain ⟨za, zc0⟩ := mz.asked (cfgOf s g).rm ((i : Nat) : Int) d.1 (oldL LM)
          have zc : (((askedL (cfgOf s g).rm ((i : Nat) : Int) d.1 (oldL LM) LM).cells.length : Nat) : Int) = (cfgOf s g).pl := by rw [zc0]; exact mc
          clear zc0
          have laA : (askedL (cfgOf s g).rm ((i : Nat) : Int) d.1 (oldL LM) LM).answers.length ≤ 1000 := by rw [askedL_an]; exact man
          obtain ⟨sA60, wA40⟩ := askedL_st (cfgOf s g).rm ((i : Nat) : Int) d.1 (oldL LM) LM
          have sA6 : (askedL (cfgOf s g).rm ((i : Nat) : Int) d.1 (oldL LM) LM).story.length ≤ 6000 := by omega
          have wA4 : (askedL (cfgOf s g).rm ((i : Nat) : Int) d.1 (oldL LM) LM).way.length ≤ 4 := by omega
          clear sA60 wA40
          generalize askedL (cfgOf s g).rm ((i : Nat) : Int) d.1 (oldL LM) LM = LA at o8 RA za zc laA sA6 wA4 ⊢
          refine ⟨fun σ' H7 => ∃ y10 y11, σ' = [some (.ref sa), some v, some (.ref ra), some (.ref m), some (.int s.rm), some (.int s.lt), some (.int s.ms), some (.ref p), some (.int ((i : Nat) : Int)), some (.int d.1), y10, y11, y12, none, none] ∧ LsO K H H7 p cA uA wA' yA' lA sA aA (deedL d LA), ?_, fun σ' H7 h => ?_⟩
          ·
            have hra6 := same_l o8.s0 hra
            have hsq6 := same_t o8.s0 hsq
            have pk : d.1 ∈ ks LA.lies := (RA.kk _).mpr pA
            obtain ⟨pv, pe⟩ := look_ks pk
            have hl6 : H6 lA = some (.dK (dki LA.lies)) := o8.hl
            have hget : DGet H6 lA (.int d.1) (some (.int pv)) := by
              have z := DGet.k (k := Sum.inl d.1) hl6
              rw [val_dki, pe] at z
              exact z
            have lnA := RA.len
            have lsA' : ((shA.length : Nat) : Int) ≤ s.rm + 1 := lsA'
            have r8 := gS.r2
            have lsA : shA.length ≤ 10000 := by omega
            obtain ⟨dp, dv⟩ := d
            rcases hwd with ⟨rfl, e⟩ | ⟨hw, vv, e, er⟩
            · have e : dv = none := e
              subst e
              refine ⟨_, rfl, _, rfl, _, _, _, _, rfl, rfl, hra6, atI_nat ea, _, _, _, _, rfl, rfl, hsq6, atI_nat (j := 0) rfl, rfl, _, rfl, ?_⟩
              refine iteB (decide_eq_true rfl) ?_
              refine ⟨_, rfl, p, _, rfl, o8.g_answers, .inl ⟨rfl, _, sql o8.ha⟩, ?_⟩
              refine ⟨_, rfl, p, _, rfl, o8.g_lies, _, rfl, lA, _, rfl, hget, ?_⟩
              refine ⟨_, _, _, rfl, rfl, o8.ha, by rw [List.length_map]; exact szl (by omega), ?_⟩
              have oz := o8.ans (LA.answers ++ [pv])
              have edl : deedL (dp, none) LA = { LA with answers := LA.answers ++ [pv] } := by
                show ({ LA with answers := LA.answers ++ [(LA.lies.lookup dp).getD 0] } : LS) = _
                rw [show LA.lies.lookup dp = some pv from pe]
                rfl
              rw [List.map_append] at oz
              rw [edl]
              exact ⟨_, _, rfl, oz⟩
            · have e : dv = some vv := e
              subst e er
              refine ⟨_, rfl, _, rfl, _, _, _, _, rfl, rfl, hra6, atI_nat ea, _, _, _, _, rfl, rfl, hsq6, atI_nat (j := 0) rfl, rfl, _, rfl, ?_⟩
              refine iteB0 (decide_eq_false fun z => hw (V.str.inj z)) ?_
              refine ⟨_, rfl, _, rfl, _, _, _, _, rfl, rfl, hra6, atI_nat ea, _, _, _, _, rfl, rfl, hsq6, atI_nat (j := 2) rfl, ?_⟩
              refine ⟨_, rfl, p, _, rfl, o8.g_lies, _, rfl, lA, _, rfl, DPut.k (k := Sum.inl dp) hl6 (by unfold dki; rw [List.length_map]; exact szl (by omega)), ?_⟩
              rw [put_dki]
              have oj := o8.lie (putI LA.lies dp vv)
              have hra8 := same_l oj.s0 hra
              have hsq8 := same_t oj.s0 hsq
              refine ⟨_, rfl, _, rfl, _, _, _, _, rfl, rfl, hra8, atI_nat ea, _, _, _, _, rfl, rfl, hsq8, atI_nat (j := 2) rfl, ?_⟩
              refine ⟨_, rfl, p, _, rfl, oj.g_cells, _, rfl, ?_⟩
              have gdd : (0 ≤ dp ∧ dp < ((s.mem.length : Nat) : Int)) ∧ 0 ≤ vv ∧ vv ≤ 99 := gdd
              have zc : ((LA.cells.length : Nat) : Int) = ((s.mem.length : Nat) : Int) := zc
              refine ⟨_, _, _, dp.toNat, rfl, rfl, oj.hc, by unfold ixN; rw [if_pos gdd.1.1, if_pos (by rw [List.length_map]; show dp < ((LA.cells.length : Nat) : Int); omega)], ?_⟩
              have oz := oj.cel (LA.cells.set dp.toNat vv)
              rw [List.map_set] at oz
              exact ⟨_, _, rfl, oz⟩
          · obtain ⟨y10, y11, rfl, o9⟩ := h
            have hra7 := same_l o9.s0 hra
            refine ⟨_, rfl, _, rfl, _, rfl, _, _, rfl, rfl, _, rfl, _, _, rfl, hra7, fun L0 nL0 => ?_⟩
            rw [cut_to (by omega), ← List.map_take, show (((i : Nat) : Int) + 1).toNat = i + 1 by omega]
            have o10 := o9.same (same_upd (o := .lst ((as.take (i + 1)).map V.ref)) nL0)
            have eL0 : (upd H7 L0 (.lst ((as.take (i + 1)).map V.ref))) L0 = some (.lst ((as.take (i + 1)).map V.ref)) := upd_same
            generalize upd H7 L0 (.lst ((as.take (i + 1)).map V.ref)) = H8 at o10 eL0 ⊢
            refine ⟨L0, rfl, ⟨_, sql eL0⟩, fun D0 nD0 => ?_⟩
            have lat : (as.take (i + 1)).length = i + 1 := by rw [List.length_take]; omega
            have ldt : ((ds.map (·.1)).take (i + 1)).length = i + 1 := by rw [List.length_take, List.length_map]; omega
            refine lc_list (xs := (as.take (i + 1)).map V.ref) (fun j H9 => Same H8 H9 ∧ H9 D0 = some (.lst ((((ds.map (·.1)).take (i + 1)).take j).map V.int))) ⟨same_upd nD0, upd_same⟩ (fun j H9 _ h => sql (h.1 _ _ eL0)) (fun j y H9 hj h => ?_) (fun H9 h => ?_)
            ·
              obtain ⟨s9, eD⟩ := h
              have hj1 : j < i + 1 := by
                have := (List.getElem?_eq_some_iff.mp hj).1
                rw [List.length_map, lat] at this
                exact this
              have hj2 : (as.map V.ref)[j]? = some y := by rw [List.map_take, List.getElem?_take, if_pos hj1] at hj; exact hj
              obtain ⟨u2, dd, rfl, hu2, _, eg2⟩ := pr_at (pd.imm (Imm.same (o10.s0.trans s9))) hj2
              obtain ⟨wd2, rest2, hsq2, _⟩ := deed_sq hu2
              refine ⟨rfl, _, rfl, _, _, _, _, rfl, rfl, hsq2, atI_nat (j := 1) rfl, _, eD, by rw [List.length_map, List.length_take]; exact szl (by omega), same_mut s9 nD0, ?_⟩
              rw [upd_same, List.take_add_one (i := j), List.getElem?_take, if_pos hj1, List.getElem?_map, eg2, List.map_append]
              rfl
            · obtain ⟨s9, eD⟩ := h
              rw [show ((ds.map (·.1)).take (i + 1)).take ((as.take (i + 1)).map V.ref).length = (ds.map (·.1)).take (i + 1) from List.take_of_length_le (by rw [List.length_map, lat, ldt]; exact Nat.le_refl _)] at eD
              have o11 := o10.same s9
              have et : (ds.map (·.1)).take (i + 1) = (ds.map (·.1)).take i ++ [d.1] := by rw [List.take_add_one, List.getElem?_map, ed]; rfl
              refine ⟨v, D0, g, (ds.map (·.1)).take (i + 1), d.1, 3, rfl, hG.same o11.s0, hg, by omega, by omega, sql eD, by rw [et, List.getLast?_append]; rfl, by omega, fun l H10 nl s10 el => ?_⟩
              rw [et, ← step_law hg, ← kn] at el
              have lgs : (stepG g (runTo s g ds i).st.2.2 d.1).2.length ≤ 24 := by rw [kn, step_law hg]; exact lawG_len (k := 3) hg
              generalize (stepG g (runTo s g ds i).st.2.2 d.1).2 = gs at el lgs ⊢
              have oM := o11.same s10
              obtain ⟨oB, sB⟩ := oM.max
              have hlB : mb H10 [p, cA, uA, wA', yA', lA, sA, aA] l = some (.lst (gs.map V.int)) := by
                have : l ∉ [p, cA, uA, wA', yA', lA, sA, aA] := fun hz => by
                  obtain ⟨ss, ss1, _⟩ := o11.hs
                  obtain ⟨yw, yw1, _⟩ := o11.hy
                  simp only [List.mem_cons, List.not_mem_nil, or_false] at hz
                  rcases hz with rfl | rfl | rfl | rfl | rfl | rfl | rfl | rfl
                  · rw [o11.ob] at nl; cases nl
                  · rw [o11.hc] at nl; cases nl
                  · rw [o11.hu] at nl; cases nl
                  · rw [o11.hw] at nl; cases nl
                  · rw [yw1] at nl; cases nl
                  · rw [o11.hl] at nl; cases nl
                  · rw [ss1] at nl; cases nl
                  · rw [o11.ha] at nl; cases nl
                show (if l ∈ _ then none else H10 l) = _
                rw [if_neg this]
                exact el
              generalize mb H10 [p, cA, uA, wA', yA', lA, sA, aA] = HB at oB sB hlB
              have w0 : (deedL d LA).way.length ≤ 4 := by rw [(deedL_st d LA).2]; exact wA4
              have t0 : (deedL d LA).story.length ≤ 6000 := by rw [(deedL_st d LA).1]; exact sA6
              refine ⟨l, rfl, ⟨_, sql el⟩, ?_⟩
              refine for_list (xs := gs.map V.int) (fun k σ H' => ∃ y10 y11 y12, σ = [some (.ref sa), some v, some (.ref ra), some (.ref m), some (.int s.rm), some (.int s.lt), some (.int s.ms), some (.ref p), some (.int ((i : Nat) : Int)), some (.int d.1), y10, y11, y12, none, none] ∧ (((gs.take k).foldl (startL (cfgOf s g).pl (cfgOf s g).ms ((i : Nat) : Int)) (deedL d LA)).way.length ≤ 4 ∧ ((gs.take k).foldl (startL (cfgOf s g).pl (cfgOf s g).ms ((i : Nat) : Int)) (deedL d LA)).story.length ≤ 6000 + k) ∧ LsO K HB H' p cA uA wA' yA' lA sA aA ((gs.take k).foldl (startL (cfgOf s g).pl (cfgOf s g).ms ((i : Nat) : Int)) (deedL d LA)))
                ⟨_, _, _, rfl, ⟨w0, t0⟩, oB⟩ (fun k σ H' _ h => ?_) (fun k x σ H' hk h => ?_) (fun σ H' h => ?_)
              · obtain ⟨y10, y11, y12, rfl, _, ok⟩ := h
                exact sql (ok.s0 _ _ hlB)
              · obtain ⟨y10, y11, y12, rfl, ⟨w4, st4⟩, ok⟩ := h
                obtain ⟨q0, rfl, eq0, tkq⟩ := at_ints hk
                have hk' := (List.getElem?_eq_some_iff.mp eq0).1
                have ef : (gs.take (k + 1)).foldl (startL (cfgOf s g).pl (cfgOf s g).ms ((i : Nat) : Int)) (deedL d LA) = startL (cfgOf s g).pl (cfgOf s g).ms ((i : Nat) : Int) ((gs.take k).foldl (startL (cfgOf s g).pl (cfgOf s g).ms ((i : Nat) : Int)) (deedL d LA)) q0 := by rw [tkq, List.foldl_append]; rfl
                rw [ef]
                generalize (gs.take k).foldl (startL (cfgOf s g).pl (cfgOf s g).ms ((i : Nat) : Int)) (deedL d LA) = Lk at ok w4 st4 ⊢
                have zz := startL_sz (pl := (cfgOf s g).pl) (t := ((i : Nat) : Int)) (show (cfgOf s g).ms ≤ 4 from gS.w2) w4 st4 q0
                refine ⟨fun σ' H8 => ∃ th : Bool, σ' = [some (.ref sa), some v, some (.ref ra), some (.ref m), some (.int s.rm), some (.int s.lt), some (.int s.ms), some (.ref p), some (.int ((i : Nat) : Int)), some (.int d.1), some (.int q0), y11, some (.bl th), none, none] ∧ (th = true ↔ (q0 ∈ ks Lk.lies ∨ q0 ∈ ks Lk.way)) ∧ LsO K HB H8 p cA uA wA' yA' lA sA aA Lk, ?_, fun σ' H8 h => ?_⟩
                · refine ⟨_, rfl, _, rfl, p, _, rfl, ok.g_lies, lA, _, rfl, DGet.k (k := Sum.inl q0) ok.hl, ?_⟩
                  rw [val_dki]
                  by_cases c1 : q0 ∈ ks Lk.lies
                  · obtain ⟨pv, pe⟩ := look_ks c1
                    rw [pe]
                    refine ⟨_, rfl, iteB rfl ?_⟩
                    exact ⟨true, rfl, ⟨fun _ => .inl c1, fun _ => rfl⟩, ok⟩
                  · rw [look_none c1]
                    refine ⟨_, rfl, iteB0 rfl ?_⟩
                    obtain ⟨ys, yy1, yy2⟩ := id ok.hy
                    have lys : ys.length = Lk.way.length := Paired.length yy2
                    refine ⟨_, rfl, _, rfl, p, _, rfl, ok.g_way, ?_⟩
                    refine ⟨yA', rfl, ⟨_, sql yy1⟩, fun N nN => ?_⟩
                    refine lc_list (xs := ys.map V.ref) (fun j H9 => Same H' H9 ∧ H9 N = some (.lst (((ks Lk.way).take j).map V.int))) ⟨same_upd nN, upd_same⟩ (fun j H9 _ h => sql (h.1 _ _ yy1)) (fun j y H9 hj h => ?_) (fun H9 h => ?_)
                    · obtain ⟨s9, eN⟩ := h
                      obtain ⟨u2, oo, rfl, hu2, tk2, eg2⟩ := pr_at (yy2.imm (Imm.same s9)) hj
                      obtain ⟨o1, o2⟩ := oo
                      have hu2 : SqT K H9 u2 [.int o1, .int o2] := hu2
                      refine ⟨rfl, _, rfl, _, _, _, _, rfl, rfl, hu2, atI_nat (j := 0) rfl, _, eN, by rw [List.length_map, List.length_take]; exact szl (by have : (ks Lk.way).length = Lk.way.length := List.length_map _; omega), same_mut s9 nN, ?_⟩
                      rw [upd_same]
                      have ek : (ks Lk.way).take (j + 1) = (ks Lk.way).take j ++ [o1] := by rw [List.take_add_one, show (ks Lk.way)[j]? = some o1 by unfold ks; rw [List.getElem?_map, eg2]; rfl]; rfl
                      rw [ek, List.map_append]
                      rfl
                    · obtain ⟨s9, eN⟩ := h
                      rw [show (ks Lk.way).take (ys.map V.ref).length = ks Lk.way from List.take_of_length_le (by rw [List.length_map, lys]; exact Nat.le_of_eq (List.length_map _))] at eN
                      refine ⟨N, _, rfl, .inl (sql eN), rfl, flat_ints _, ?_⟩
                      rw [inV_ints]
                      exact ⟨decide (q0 ∈ ks Lk.way), rfl, by simp [c1], ok.same s9⟩
                · obtain ⟨th, rfl, hth, o12⟩ := h
                  have out : ¬ ((0 ≤ q0 ∧ q0 < (cfgOf s g).pl) ∧ ¬ (q0 ∈ ks Lk.lies ∨ q0 ∈ ks Lk.way) ∧ ((Lk.way.length : Nat) : Int) < (cfgOf s g).ms) → startL (cfgOf s g).pl (cfgOf s g).ms ((i : Nat) : Int) Lk q0 = Lk := fun z => if_neg z
                  have h2' := same_t (sB.trans o12.s0) h2
                  have lm : (s.mem.map V.int).length = s.mem.length := List.length_map _
                  have z4 : Lk.story.length ≤ 6000 + (k + 1) := by omega
                  have fail : ¬ ((0 ≤ q0 ∧ q0 < (cfgOf s g).pl) ∧ ¬ (q0 ∈ ks Lk.lies ∨ q0 ∈ ks Lk.way) ∧ ((Lk.way.length : Nat) : Int) < (cfgOf s g).ms) → ((startL (cfgOf s g).pl (cfgOf s g).ms ((i : Nat) : Int) Lk q0).way.length ≤ 4 ∧ (startL (cfgOf s g).pl (cfgOf s g).ms ((i : Nat) : Int) Lk q0).story.length ≤ 6000 + (k + 1)) ∧ LsO K HB H8 p cA uA wA' yA' lA sA aA (startL (cfgOf s g).pl (cfgOf s g).ms ((i : Nat) : Int) Lk q0) := fun z => by
                    rw [out z]
                    exact ⟨⟨w4, z4⟩, o12⟩
                  refine ⟨_, rfl, _, _, rfl, rfl, _, rfl, ?_⟩
                  by_cases d1 : 0 ≤ q0
                  · refine iteB (decide_eq_true d1) ?_
                    refine ⟨_, rfl, m, _, rfl, .inr h2', _, _, rfl, rfl, _, rfl, ?_⟩
                    by_cases d2 : q0 < (cfgOf s g).pl
                    · refine iteB (decide_eq_true (by rw [lm]; exact d2)) ?_
                      cases th with
                      | true =>
                        refine ⟨_, rfl, _, rfl, iteB0 (b := !true) rfl ?_⟩
                        exact iteB0 rfl ⟨_, _, _, rfl, (fail fun z => z.2.1 (hth.mp rfl)).1, (fail fun z => z.2.1 (hth.mp rfl)).2⟩
                      | false =>
                        refine ⟨_, rfl, _, rfl, iteB (b := !false) rfl ?_⟩
                        have hth' : ¬ (q0 ∈ ks Lk.lies ∨ q0 ∈ ks Lk.way) := fun z => Bool.false_ne_true (hth.mpr z)
                        obtain ⟨ys, yw1, yw2⟩ := id o12.hy
                        have lyw : ys.length = Lk.way.length := Paired.length yw2
                        refine ⟨_, rfl, p, _, rfl, o12.g_way, _, _, rfl, .inl (sql yw1), _, rfl, _, _, rfl, rfl, _, rfl, ?_⟩
                        by_cases d4 : ((Lk.way.length : Nat) : Int) < (cfgOf s g).ms
                        · refine iteB (decide_eq_true (by rw [List.length_map, lyw]; exact d4)) ?_
                          have es : startL (cfgOf s g).pl (cfgOf s g).ms ((i : Nat) : Int) Lk q0 = { Lk with way := Lk.way ++ [(q0, ((i : Nat) : Int))], story := Lk.story ++ [(((i : Nat) : Int), ("start" : Str), q0)] } := if_pos ⟨⟨d1, d2⟩, hth', d4⟩
                          rw [es] at zz ⊢
                          refine ⟨_, rfl, p, _, rfl, o12.g_way, .inl ⟨rfl, _, sql yw1⟩, ?_⟩
                          refine ⟨_, rfl, _, rfl, sz_2, fun p1 n1 => ?_⟩
                          have o13 := o12.same (same_upd (o := .tup [.int q0, .int ((i : Nat) : Int)]) n1)
                          have yw1' := same_upd (o := .tup [.int q0, .int ((i : Nat) : Int)]) n1 _ _ yw1
                          refine ⟨_, _, _, rfl, rfl, yw1', by rw [List.length_map]; exact szl (by omega), ?_⟩
                          have o14 := o13.wayP yw1' (yw2.imm (Imm.same (same_upd n1))) (x := q0) (b := ((i : Nat) : Int)) (sqt upd_same)
                          generalize upd (upd H8 p1 (.tup [.int q0, .int ((i : Nat) : Int)])) yA' (.lst (ys.map V.ref ++ [.ref p1])) = H9 at o14 ⊢
                          obtain ⟨ss, t1, t2⟩ := id o14.hs
                          have t2 : PrR K H9 ss Lk.story := t2
                          have lss : ss.length = Lk.story.length := Paired.length t2
                          refine ⟨_, rfl, p, _, rfl, o14.g_story, .inl ⟨rfl, _, sql t1⟩, ?_⟩
                          refine ⟨_, rfl, _, rfl, sz_3, fun p2 n2 => ?_⟩
                          have o15 := o14.same (same_upd (o := .tup [.int ((i : Nat) : Int), .str "start", .int q0]) n2)
                          have t1' := same_upd (o := .tup [.int ((i : Nat) : Int), .str "start", .int q0]) n2 _ _ t1
                          refine ⟨_, _, _, rfl, rfl, t1', by rw [List.length_map]; exact szl (by omega), ?_⟩
                          have o16 := o15.stor t1' (t2.imm (Imm.same (same_upd n2))) (t := ((i : Nat) : Int)) (x := "start") (r := q0) (sqt upd_same)
                          exact ⟨_, _, _, rfl, ⟨zz.1, zz.2⟩, o16⟩
                        · refine iteB0 (decide_eq_false (by rw [List.length_map, lyw]; exact d4)) ?_
                          exact ⟨_, _, _, rfl, (fail fun z => d4 z.2.2).1, (fail fun z => d4 z.2.2).2⟩
                    · refine iteB0 (decide_eq_false (by rw [lm]; exact d2)) ?_
                      exact iteB0 rfl ⟨_, _, _, rfl, (fail fun z => d2 z.1.2).1, (fail fun z => d2 z.1.2).2⟩
                  · refine iteB0 (decide_eq_false d1) ?_
                    exact ⟨_, rfl, iteB0 rfl (iteB0 rfl ⟨_, _, _, rfl, (fail fun z => d1 z.1.1).1, (fail fun z => d1 z.1.1).2⟩)⟩
              · obtain ⟨y10, y11, y12, rfl, _, ok⟩ := h
                rw [show gs.take (gs.map V.int).length = gs by rw [List.length_map]; exact List.take_length] at ok
                exact ⟨wA', yA', _, _, _, _, _, rfl, ok.weak sB⟩
  · obtain ⟨wA, yA, y8, y9, y10, y11, y12, rfl, o⟩ := h
    and_intros
    exact q p cA uA wA yA lA sA aA H' o
end
end St

namespace St
open PySem PySem.Spec PyProof.Rows L2
abbrev s__law_counts : Stmt := topS 50
abbrev N__law_counts : List Str := ["_law_s", "_law_words", "_law_many", "_law_idle", "_law_turn", "_law_word", "_law_place"]
abbrev p__law_counts : List Str := ["_law_s"]
theorem sc__law_counts : FnScope N__law_counts p__law_counts (defScope s__law_counts) := ⟨rfl, rfl, rfl, by decide +kernel, rfl, by decide +kernel, by decide +kernel⟩
theorem pe_bmK {X : Cx} {K : PySem.W.Frag} {o e : Expr} {es : List Expr} {to : TE} {t : TA} {name : Str} {apos cpos : Pos} {T id : String} {r : V → List V → Hp → VK → Prop}
    (pa : PlainAttrs T) (slot : Slot T name id) (hty : typeOf (.builtin id) = pure (.type "method_descriptor")) (hm : MtR X id r) (ho : PE X o to) (ha : PA X (e :: es) t) (hK : X.K = K := by rfl)
    (hbase : attributeBase o name X.env (eval o X.env) = eval o X.env := by rfl)
    (hfew : ((backTo cpos (starEach (e :: es) X.env)).all (fun x => !x.1) && (backToKw cpos (keywordEach [] X.env)).all (fun x => x.1.isSome)
      && decide ((e :: es).length + ([] : List Keyword).length + (if ([] : List Keyword).isEmpty then 0 else 1) < 30)) = true := by rfl)
    (hline : (apos.endLine == cpos.line) = true := by rfl) (hs : starEach (e :: es) X.env = (false, eval e X.env) :: starEach es X.env := by rfl) (hplain : (backTo cpos (starEach es X.env)).any (·.1) = false := by rfl) :
    PE X (.Call (.Attribute o name apos) (e :: es) [] cpos) (tBM K T r to t) := by
  subst hK
  exact pe_bm pa slot hty hm ho ha hbase hfew hline hs hplain
/-! ### the law's counts -/
def cw (st : List (Int × Str × Int)) (x : Str) : Int := (((st.map fun e => e.2.1).count x : Nat) : Int)
def countsL (L : LS) : List Int := [cw L.story "hit" + cw L.story "first", cw L.story "late", cw L.story "miss", cw L.story "start", cw L.story "first" + cw L.story "late", cw L.story "waste", ((L.waits.length + L.way.length : Nat) : Int)]
section
variable {P : Program} {w : World} {K : PySem.W.Frag} {mg : Str → Option Value} {base : Heap} {f : Addr} {fd : FuncData}
def spLC (K : PySem.W.Frag) : Sp := fun vs H Q _ => ∃ (p cA uA wA yA lA sA aA : Addr) (H0 : Hp) (L : LS), vs = [.ref p] ∧ LsO K H0 H p cA uA wA yA lA sA aA L ∧ L.story.length ≤ 10000 ∧
  ∀ t H', Same H H' → SqT K H' t ((countsL L).map V.int) → Q (.ref t) H'
theorem ok__law_counts (T : Nms mg) (F : Fun K "_law_counts" "_law_counts" s__law_counts f fd) : FnOk P w K mg base CX0 1 f fd p__law_counts (spLC K) := by
  refine F.ok sc__law_counts (fun vs H Q E h => ?_) (fun cdv A outer s H vs Q E hr h => ?_)
  · obtain ⟨p, cA, uA, wA, yA, lA, sA, aA, H0, L, rfl, _⟩ := h
    rfl
  obtain ⟨p, cA, uA, wA, yA, lA, sA, aA, H0, L, rfl, o, hl, q⟩ := h
  refine ⟨_, (pss_cons (ps_set (i := 1) sc__law_counts.nd rfl (Or.inr rfl) (pe_lc (own := [("_law_turn", 4), ("_law_word", 5), ("_law_place", 6)]) (g := (gTup K 3 (gCons (gName 4) (gCons (gName 5) (gCons (gName 6) gNil))))) rfl sc__law_counts.nd (pi_list (pe_dget (hu_of hr) (pv 0) pe_str (fun _ _ => rfl))) (blkOk_by (own := [("_law_turn", 4), ("_law_word", 5), ("_law_place", 6)]) (N := N__law_counts) (sc := defScope s__law_counts) (by decide +kernel)) (fun _ _ _ _ _ => pg_tup rfl (pgs_cons (pg_name (i := 4) sc__law_counts.nd rfl (Or.inl rfl)) (pgs_cons (pg_name (i := 5) sc__law_counts.nd rfl (Or.inl rfl)) (pgs_cons (pg_name (i := 6) sc__law_counts.nd rfl (Or.inl rfl)) pgs_nil)))) (fun _ _ _ _ _ => pts_nil) (fun _ _ _ _ _ => (pv 5))))
  (pss_cons (ps_setLc (i := 2) (own := [("_law_word", 5)]) (g := gName 5) rfl sc__law_counts.nd rfl rfl (sw_true rfl rfl rfl (by decide +kernel)) (pi_list (pe_lst (pa_cons pe_str (pa_cons pe_str (pa_cons pe_str (pa_cons pe_str (pa_cons pe_str (pa_cons pe_str pa_nil)))))))) (blkOk_by (own := [("_law_word", 5)]) (N := N__law_counts) (sc := defScope s__law_counts) (by decide +kernel)) (fun _ _ _ _ _ => pg_name (i := 5) sc__law_counts.nd rfl (Or.inl rfl)) (fun _ _ _ _ _ => pts_nil) (fun _ _ _ _ _ => (pe_bmK (K := K) PySem.F.plainAttrs_list PySem.F.slot_list_count PySem.F.type_list_count (mt_lcountS (K := K)) (pv 1) (pa_cons (pv 5) pa_nil))))
  (pss_cons (ps_set (i := 3) sc__law_counts.nd rfl (Or.inl rfl) (pe_op op_add (pe_callB call_len_seq (by rfl) T.n_len (by decide +kernel) (pa_cons (pe_dget (hu_of hr) (pv 0) pe_str (fun _ _ => rfl)) pa_nil)) (pe_callB call_len_seq (by rfl) T.n_len (by decide +kernel) (pa_cons (pe_dget (hu_of hr) (pv 0) pe_str (fun _ _ => rfl)) pa_nil))))
  (pss_one (ps_ret (pe_tup (pa_cons (pe_op op_add (pe_ix ix_list (pv 2) pe_int (fun _ _ => rfl)) (pe_ix ix_list (pv 2) pe_int (fun _ _ => rfl))) (pa_cons (pe_ix ix_list (pv 2) pe_int (fun _ _ => rfl)) (pa_cons (pe_ix ix_list (pv 2) pe_int (fun _ _ => rfl)) (pa_cons (pe_ix ix_list (pv 2) pe_int (fun _ _ => rfl)) (pa_cons (pe_op op_add (pe_ix ix_list (pv 2) pe_int (fun _ _ => rfl)) (pe_ix ix_list (pv 2) pe_int (fun _ _ => rfl))) (pa_cons (pe_ix ix_list (pv 2) pe_int (fun _ _ => rfl)) (pa_cons (pv 3) pa_nil))))))))))))), ?_⟩
  obtain ⟨ss, t1, t2⟩ := id o.hs
  have lss : ss.length = L.story.length := Paired.length t2
  and_intros
  refine ⟨p, _, rfl, o.g_story, ?_⟩
  refine ⟨sA, rfl, ⟨_, sql t1⟩, fun D nD => ?_⟩
  refine lc_list (xs := ss.map V.ref) (fun j H2 => Same H H2 ∧ H2 D = some (.lst (((L.story.map fun e => e.2.1).take j).map V.str))) ⟨same_upd nD, upd_same⟩ (fun j H2 _ h => sql (h.1 _ _ t1)) (fun j y H2 hj h => ?_) (fun H2 h => ?_)
  · obtain ⟨s3, eD⟩ := h
    obtain ⟨u2, oo, rfl, hu2, tk2, eg2⟩ := pr_at (t2.imm (Imm.same s3)) hj
    obtain ⟨o1, o2, o3⟩ := oo
    have hu2 : SqT K H2 u2 [.int o1, .str o2, .int o3] := hu2
    refine ⟨u2, _, rfl, hu2, rfl, _, _, rfl, _, _, rfl, _, _, rfl, rfl, ?_⟩
    refine ⟨rfl, ?_⟩
    and_intros
    refine ⟨_, eD, by rw [List.length_map, List.length_take, List.length_map]; exact szl (by omega), same_mut s3 nD, ?_⟩
    rw [upd_same, List.take_add_one, List.getElem?_map, eg2, List.map_append]
    rfl
  · obtain ⟨s3, eD⟩ := h
    rw [show (L.story.map fun e => e.2.1).take (ss.map V.ref).length = L.story.map fun e => e.2.1 from List.take_of_length_le (by rw [List.length_map, List.length_map, lss]; exact Nat.le_refl _)] at eD
    have o2 := o.same s3
    and_intros
    intro l4 n4
    have e4 : (upd H2 l4 (.lst [.str "hit", .str "first", .str "late", .str "miss", .str "start", .str "waste"])) l4 = some (.lst [.str "hit", .str "first", .str "late", .str "miss", .str "start", .str "waste"]) := upd_same
    have s4 := s3.trans (same_upd (o := .lst [.str "hit", .str "first", .str "late", .str "miss", .str "start", .str "waste"]) n4)
    have eD4 := same_upd (o := .lst [.str "hit", .str "first", .str "late", .str "miss", .str "start", .str "waste"]) n4 _ _ eD
    generalize upd H2 l4 (.lst [.str "hit", .str "first", .str "late", .str "miss", .str "start", .str "waste"]) = H4 at e4 s4 eD4 ⊢
    refine ⟨l4, rfl, ⟨_, sql e4⟩, fun M nM => ?_⟩
    refine lc_list (xs := (["hit", "first", "late", "miss", "start", "waste"] : List Str).map V.str) (fun j H5 => Same H4 H5 ∧ H5 M = some (.lst (((([("hit" : Str), "first", "late", "miss", "start", "waste"].map (cw L.story)).take j).map V.int)))) ⟨same_upd nM, upd_same⟩ (fun j H5 _ h => sql (h.1 _ _ e4)) (fun j y H5 hj h => ?_) (fun H5 h => ?_)
    · obtain ⟨s5, eM⟩ := h
      rw [List.getElem?_map] at hj
      cases ej : ([("hit" : Str), "first", "late", "miss", "start", "waste"])[j]? with
      | none => rw [ej] at hj; cases hj
      | some x =>
        rw [ej] at hj
        cases Option.some.inj hj
        have sD : SqL K H5 D _ := sql (s5 _ _ eD4)
        and_intros
        refine ⟨.inl ⟨rfl, _, sD⟩, ?_⟩
        and_intros
        refine ⟨D, L.story.map (fun e => e.2.1), x, rfl, rfl, sD, ?_⟩
        refine ⟨_, eM, by rw [List.length_map, List.length_take]; exact szl (by show min j 6 < _; omega), same_mut s5 nM, ?_⟩
        rw [upd_same, List.take_add_one, List.getElem?_map, ej, List.map_append]
        rfl
    · obtain ⟨s5, eM⟩ := h
      have eM : H5 M = some (.lst (([("hit" : Str), "first", "late", "miss", "start", "waste"].map (cw L.story)).map V.int)) := eM
      have o5 := o.same (s4.trans s5)
      obtain ⟨ys, y1, y2⟩ := id o5.hy
      have lys : ys.length = L.way.length := Paired.length y2
      have sM : SqL K H5 M [.int (cw L.story "hit"), .int (cw L.story "first"), .int (cw L.story "late"), .int (cw L.story "miss"), .int (cw L.story "start"), .int (cw L.story "waste")] := sql eM
      refine ⟨_, rfl, p, _, rfl, o5.g_waits, _, _, rfl, .inl (sql o5.hw), _, rfl, p, _, rfl, o5.g_way, _, _, rfl, .inl (sql y1), _, _, rfl, rfl, ?_⟩
      have ew : (((L.waits.map V.int).length : Nat) : Int) + (((ys.map V.ref).length : Nat) : Int) = ((L.waits.length + L.way.length : Nat) : Int) := by rw [List.length_map, List.length_map, lys]; omega
      and_intros
      intro t nt
      refine q t _ ((s4.trans s5).trans (same_upd nt)) (sqt (upd_same.trans ?_))
      show some (HO.tup [.int (cw L.story "hit" + cw L.story "first"), .int (cw L.story "late"), .int (cw L.story "miss"), .int (cw L.story "start"), .int (cw L.story "first" + cw L.story "late"), .int (cw L.story "waste"), .int ((((L.waits.map V.int).length : Nat) : Int) + (((ys.map V.ref).length : Nat) : Int))]) = _
      rw [ew]
      rfl
end
end St

namespace St
open PySem PySem.Spec PyProof.Rows L2
/-! ### the places that wait are unlike; so the law's counts are the run's -/
theorem laid_nw {rm t p : Int} {w : Str} {old : Int} {L : LS} (h : L.waits.Nodup) : (laidL rm t p w old L).waits.Nodup ∧ ∀ q ∈ (laidL rm t p w old L).waits, q ∈ L.waits := by
  unfold laidL
  split
  · exact ⟨h.filter _, fun q hq => (List.mem_filter.mp hq).1⟩
  · exact ⟨h, fun q hq => hq⟩
theorem comes_nw {pl rm t : Int} (h1 : 1 ≤ rm) : ∀ (F : List (Int × Int)) (L : LS), ShL pl rm (ks F) L → L.waits.Nodup → (F.foldl (comeL rm t) L).waits.Nodup
  | [], _, _, h => h
  | (p, b) :: F, L, S, h => by
    have S2 := comes_pre (t := t) h1 ((p, b) :: F) L S 1 (by show 1 ≤ F.length + 1; omega)
    have S2 : ShL pl rm (ks F) (comeL rm t L (p, b)) := S2
    refine comes_nw h1 F (comeL rm t L (p, b)) S2 ?_
    obtain ⟨sh, R, nd, _, _⟩ := S
    obtain ⟨a, a2⟩ := laid_nw (rm := rm) (t := t) (p := p) (w := "come") (old := oldL L) h
    show ((laidL rm t p "come" (oldL L) L).waits ++ [p]).Nodup
    refine List.nodup_append.mpr ⟨a, by simp, fun x hx y hy => ?_⟩
    rw [List.mem_singleton.mp hy]
    rintro rfl
    have := R.wk x (a2 x hx)
    exact (List.nodup_append.mp nd).2.2 x this x (by show x ∈ ks ((x, b) :: F); exact List.mem_cons_self ..) rfl
theorem asked_nw {rm t p old : Int} {L : LS} (h : L.waits.Nodup) : (askedL rm t p old L).waits.Nodup := by
  unfold askedL
  split
  · exact h.filter _
  · exact (laid_nw (L := { L with way := L.way.filter fun e => decide (e.1 ≠ p) }) h).1
theorem starts_nw {pl ms t : Int} : ∀ (gs : List Int) (L : LS), (gs.foldl (startL pl ms t) L).waits = L.waits
  | [], _ => rfl
  | g :: gs, L => by
    rw [List.foldl_cons, starts_nw gs]
    unfold startL
    split <;> rfl
theorem runL_nw {s : Stg} {g : G} (hs : s.Good) (hg : good 3 g = true) {ds : List Deed} (hd : ∀ d ∈ ds, Deed.Good ((s.mem.length : Nat) : Int) d) : ∀ i, i ≤ ds.length → (runL s g ds i).waits.Nodup
  | 0, _ => List.nodup_nil
  | i + 1, hi => by
    have ih := runL_nw hs hg hd i (by omega)
    have iv := runTo_inv hs hg hd i (by omega)
    have rr := runL_rel hs hg hd i (by omega)
    have hi' : i < ds.length := hi
    rw [runL_succ (List.getElem?_eq_getElem hi')]
    have sh0 : ShL (cfgOf s g).pl (cfgOf s g).rm (ks (runL s g ds i).way) (runL s g ds i) := by
      have k1 : ks (runTo s g ds i).st.2.1 = ks (runL s g ds i).way := by rw [rr.wy]; unfold ks; rw [List.map_map]; rfl
      exact ⟨_, rr.R, by rw [← k1]; exact iv.iv.nd, by rw [← k1]; exact iv.iv.rg, iv.iv.l1⟩
    generalize runL s g ds i = L at ih sh0 ⊢
    unfold turnL
    rw [starts_nw]
    have e : ∀ (d : Deed) (M : LS), (deedL d M).waits = M.waits := fun d M => by
      obtain ⟨p, v⟩ := d
      cases v <;> rfl
    rw [e]
    refine asked_nw ?_
    show (comesL (cfgOf s g).rm ((i : Nat) : Int) (cfgOf s g).lt L).waits.Nodup
    refine comes_nw (pl := (cfgOf s g).pl) (cfg_ok hs hg).r1 _ L ?_ ih
    obtain ⟨sh, R, nd, rg, hl2⟩ := sh0
    have sub : (ks (L.way.filter (fun e => decide (e.2 + (cfgOf s g).lt < ((i : Nat) : Int))))).Sublist (ks L.way) := List.filter_sublist.map _
    refine ⟨sh, R, nd.sublist (List.Sublist.append_left sub _), fun q hq => ?_, hl2⟩
    rcases List.mem_append.mp hq with hq | hq
    · exact rg q (List.mem_append_left _ hq)
    · exact rg q (List.mem_append_right _ (sub.subset hq))
theorem RelS.idle {sh : Shelf} {L : LS} (R : RelS sh L) (nw : L.waits.Nodup) : (sh.filter fun e => e.2).length = L.waits.length := by
  have nd : ((sh.filter fun e => e.2).map (·.1)).Nodup := R.nd.sublist (List.filter_sublist.map _)
  have pm : ((sh.filter fun e => e.2).map (·.1)).Perm L.waits := (List.perm_ext_iff_of_nodup nd nw).mpr fun q => by
    constructor
    · intro h
      obtain ⟨e, he, rfl⟩ := List.mem_map.mp h
      obtain ⟨h1, h2⟩ := List.mem_filter.mp he
      exact (R.fl e h1).mp h2
    · intro h
      obtain ⟨e, he, rfl⟩ := List.mem_map.mp (R.wk q h)
      exact List.mem_map.mpr ⟨e, List.mem_filter.mpr ⟨he, (R.fl e he).mpr h⟩, rfl⟩
  have := pm.length_eq
  rw [List.length_map] at this
  exact this
theorem cw_eq (x : Str) (rs : List (Int × Str × Int)) : cw rs x = ((cR x rs : Nat) : Int) := by
  unfold cw cR
  congr 1
  induction rs with
  | nil => rfl
  | cons e r ih =>
    rw [List.map_cons, List.count_cons, List.filter_cons, ih]
    by_cases c : e.2.1 = x
    · rw [if_pos (by simp [c]), if_pos (by simp [c]), List.length_cons]
    · rw [if_neg (by simp [c]), if_neg (by simp [c])]
      rfl
/-- the law's counts are the program's -/
theorem counts_rel {s : Stg} {g : G} (hs : s.Good) (hg : good 3 g = true) {ds : List Deed} (hd : ∀ d ∈ ds, Deed.Good ((s.mem.length : Nat) : Int) d) : countsL (runL s g ds ds.length) = countsP (runTo s g ds ds.length).rows (runTo s g ds ds.length).st := by
  have rr := runL_rel hs hg hd ds.length (Nat.le_refl _)
  have nw := runL_nw hs hg hd ds.length (Nat.le_refl _)
  have idl := rr.R.idle nw
  have wl : (runTo s g ds ds.length).st.2.1.length = (runL s g ds ds.length).way.length := by rw [rr.wy, List.length_map]
  unfold countsL countsP
  rw [rr.st, cw_eq, cw_eq, cw_eq, cw_eq, cw_eq, cw_eq, cnt1, cnt1, cnt1, cnt1, cnt2 (by decide), cnt2 (by decide)]
  have e : idleN (runTo s g ds ds.length).st = (runL s g ds ds.length).waits.length + (runL s g ds ds.length).way.length := by
    unfold idleN
    rw [idl, wl]
  rw [e]
  simp only [Int.natCast_add]
end St

namespace St
open PySem PySem.Spec PyProof.Rows L2
abbrev s__law_taken : Stmt := topS 42
abbrev N__law_taken : List Str := ["_law_row", "_law_many", "_law_cell"]
abbrev p__law_taken : List Str := ["_law_row", "_law_many"]
theorem sc__law_taken : FnScope N__law_taken p__law_taken (defScope s__law_taken) := ⟨rfl, rfl, rfl, by decide +kernel, rfl, by decide +kernel, by decide +kernel⟩
section
variable {P : Program} {w : World} {K : PySem.W.Frag} {mg : Str → Option Value} {base : Heap} {f : Addr} {fd : FuncData}
theorem ok__law_taken (F : Fun K "_law_taken" "_law_taken" s__law_taken f fd) (T : Nms mg) : FnOk P w K mg base CX0 1 f fd p__law_taken (spTaken K) := by
  refine F.ok sc__law_taken (fun vs H Q E h => ?_) (fun cdv A outer s H vs Q E hr h => ?_)
  · obtain ⟨r, m, rfl, _⟩ := h
    rfl
  obtain ⟨r, m, rfl, ⟨sc, ns, i, s, hr0, hs, h0⟩, hm, q⟩ := h
  refine ⟨_, (pss_cons (ps_asg (pe_op op_add (pe_ix ix_list (pv 0) pe_int (fun _ _ => rfl)) pe_int) (pg_sub (pv 0) pe_int set_list))
  (pss_cons (ps_if (pt_cmpR op_gt (pe_ix ix_list (pv 0) pe_int (fun _ _ => rfl)) (pe_callB call_len_seq (by rfl) T.n_len (by decide +kernel) (pa_cons (pe_ix ix_list (pv 0) pe_int (fun _ _ => rfl)) pa_nil)) (nomark _))
    (pss_cons (ps_asg (pe_op op_mod (pe_op op_add (pe_op op_mul (pe_ix ix_list (pv 0) pe_int (fun _ _ => rfl)) pe_int) pe_int) pe_int) (pg_sub (pv 0) pe_int set_list))
    (pss_one (ps_ret (pe_op op_mod (pe_op op_fdiv (pe_ix ix_list (pv 0) pe_int (fun _ _ => rfl)) pe_int) (pv 1)))))
    (pss_nil))
  (pss_cons (ps_set (i := 2) sc__law_taken.nd rfl (Or.inl rfl) (pe_ix ix_list (pe_ix ix_list (pv 0) pe_int (fun _ _ => rfl)) (pe_op op_sub (pe_ix ix_list (pv 0) pe_int (fun _ _ => rfl)) pe_int) (fun _ _ => rfl)))
  (pss_cons (ps_asg (pe_op op_mod (pe_op op_add (pe_op op_add (pe_op op_mul (pe_ix ix_list (pv 0) pe_int (fun _ _ => rfl)) pe_int) (pv 2)) pe_int) pe_int) (pg_sub (pv 0) pe_int set_list))
  (pss_one (ps_ret (pe_op op_mod (pv 2) (pv 1)))))))), ?_⟩
  have hR : SqL K H r [.ref sc, .int i, .int s] := sql hr0
  have ne : ∀ {o : HO}, Sc K (upd H r o) sc (ns.map V.int) := fun {o} => hs.imm (Imm.upd ⟨_, hr0⟩)
  have fin : ∀ (x s' : Int) (o : HO), 0 ≤ x → x < m → Q (.int x) (upd (upd H r o) r (.lst [.ref sc, .int (i + 1), .int s'])) := fun x s' o h1 h2 => by
    rw [upd_upd]
    exact q x _ h1 h2 SameX.upd ⟨sc, ns, i + 1, s', upd_same, ne, by omega⟩
  and_intros
  have hsc : SqL K (upd H r (.lst [.ref sc, .int (i + 1), .int s])) sc (ns.map V.int) := ne.sql
  and_intros
  refine ite2 (fun c => ?_) (fun c => ?_)
  · and_intros
    exact fin _ _ _ (Int.emod_nonneg _ (by omega)) (Int.emod_lt_of_pos _ hm)
  · have c' : ¬ (((ns.map V.int).length : Nat) : Int) < i + 1 := of_decide_eq_false (Bool.eq_false_iff.mpr c)
    rw [List.length_map] at c'
    and_intros
    have hat : atI (ns.map V.int) (i + 1 - 1) = some (.int (ns[i.toNat]'(by omega))) := by
      have e : i + 1 - 1 = ((i.toNat : Nat) : Int) := by omega
      rw [e]
      refine atI_nat ?_
      rw [List.getElem?_map, List.getElem?_eq_getElem (by omega)]
      rfl
    refine ⟨_, _, _, _, rfl, rfl, hsc, hat, ?_⟩
    and_intros
    exact fin _ _ _ (Int.emod_nonneg _ (by omega)) (Int.emod_lt_of_pos _ hm)
end
end St

namespace St
open PySem PySem.Spec PyProof.Rows L2
abbrev s__law_cost : Stmt := topS 51
abbrev N__law_cost : List Str := ["_law_setting_here", "_law_guesser_here", "_law_row", "_law_weights_here", "_law_counts_here"]
abbrev p__law_cost : List Str := ["_law_setting_here", "_law_guesser_here", "_law_row", "_law_weights_here"]
theorem sc__law_cost : FnScope N__law_cost p__law_cost (defScope s__law_cost) := ⟨rfl, rfl, rfl, by decide +kernel, rfl, by decide +kernel, by decide +kernel⟩
abbrev s__law_weights : Stmt := topS 52
abbrev N__law_weights : List Str := ["_law_row", "_law_k"]
abbrev p__law_weights : List Str := ["_law_row"]
theorem sc__law_weights : FnScope N__law_weights p__law_weights (defScope s__law_weights) := ⟨rfl, rfl, rfl, by decide +kernel, rfl, by decide +kernel, by decide +kernel⟩
section
variable {P : Program} {w : World} {K : PySem.W.Frag} {mg : Str → Option Value} {base : Heap} {f f1 f2 f3 f4 f5 : Addr} {fd fd1 fd2 fd3 fd4 fd5 : FuncData}
theorem ok__law_cost (T : Nms mg) (D__law_laid : Df K mg "_law_laid" s__law_laid p__law_laid f1 fd1) (D__law_asked : Df K mg "_law_asked" s__law_asked p__law_asked f2 fd2) (D__law_guessed : Df K mg "_law_guessed" s__law_guessed p__law_guessed f3 fd3) (D__law_run : Df K mg "_law_run" s__law_run p__law_run f4 fd4) (D__law_counts : Df K mg "_law_counts" s__law_counts p__law_counts f5 fd5)
    (F : Fun K "_law_cost" "_law_cost" s__law_cost f fd) : FnOk P w K mg base CX0 6 f fd p__law_cost (spCost K) := by
  have G__law_run : FnOk P w K mg base CX0 5 f4 fd4 p__law_run (spLR K) := ok__law_run T D__law_laid D__law_asked D__law_guessed D__law_run.F
  have G__law_counts : FnOk P w K mg base CX0 1 f5 fd5 p__law_counts (spLC K) := ok__law_counts T D__law_counts.F
  refine F.ok sc__law_cost (fun vs H Q E h => ?_) (fun cdv A outer s H vs Q E hr h => ?_)
  · obtain ⟨sa, ra, wp, v, s, g, as, ds, w, rfl, _⟩ := h
    rfl
  obtain ⟨sa, ra, wp, v, s, g, as, ds, wt, rfl, hS, gS, hG, hg, hra, pd, gd, hl, hw, gw, q⟩ := h
  refine ⟨_, (pss_cons (ps_set (i := 4) sc__law_cost.nd rfl (Or.inl rfl) (pe_call G__law_counts (hr.mono (by first | decide | omega)) (by rfl) D__law_counts.m D__law_counts.F.kp D__law_counts.b .nil pass0 (pa_cons (pe_call G__law_run (hr.mono (by first | decide | omega)) (by rfl) D__law_run.m D__law_run.F.kp D__law_run.b .nil pass0 (pa_cons (pv 0) (pa_cons (pv 1) (pa_cons (pv 2) pa_nil)))) pa_nil)))
  (pss_one (ps_ret (pe_op op_add (pe_op op_add (pe_op op_mul (pe_ix ix_tup (pv 4) pe_int (fun _ _ => rfl)) (pe_ix ix_tup (pv 3) pe_int (fun _ _ => rfl))) (pe_op op_mul (pe_ix ix_tup (pv 4) pe_int (fun _ _ => rfl)) (pe_ix ix_tup (pv 3) pe_int (fun _ _ => rfl)))) (pe_op op_mul (pe_op op_add (pe_ix ix_tup (pv 4) pe_int (fun _ _ => rfl)) (pe_ix ix_tup (pv 4) pe_int (fun _ _ => rfl))) (pe_ix ix_tup (pv 3) pe_int (fun _ _ => rfl))))))), ?_⟩
  refine ⟨_, rfl, _, rfl, _, rfl, ?_⟩
  refine ⟨sa, ra, v, s, g, as, ds, rfl, hS, gS, hG, hg, hra, pd, gd, hl, fun p cA uA wA yA lA sA aA H1 o => ?_⟩
  have rr := runL_rel gS hg gd ds.length (Nat.le_refl _)
  have iv := runTo_inv gS hg gd ds.length (Nat.le_refl _)
  have rl := iv.rl
  refine ⟨p, cA, uA, wA, yA, lA, sA, aA, _, _, rfl, o, by rw [rr.st]; omega, fun kT H2 s2 hk => ?_⟩
  rw [counts_rel gS hg gd] at hk
  have s02 : Same H H2 := o.s0.trans s2
  have q' : ∀ H', Same H H' → Q (.int (weigh (countsP (runTo s g ds ds.length).rows (runTo s g ds ds.length).st) wt)) H' := q
  obtain ⟨d0, d1, d2, d3, d4, d5, d6, hcs⟩ : ∃ d0 d1 d2 d3 d4 d5 d6 : Int, countsP (runTo s g ds ds.length).rows (runTo s g ds ds.length).st = [d0, d1, d2, d3, d4, d5, d6] := ⟨_, _, _, _, _, _, _, rfl⟩
  rw [hcs] at hk q'
  have hk : SqT K H2 kT [.int d0, .int d1, .int d2, .int d3, .int d4, .int d5, .int d6] := hk
  have hw : SqT K H2 wp [.int wt.a, .int wt.b, .int wt.c] := same_t s02 hw
  obtain ⟨⟨a0, a9⟩, ⟨b0, b9⟩, c0, c9⟩ := gw
  refine ⟨_, rfl, _, _, _, _, rfl, rfl, hk, atI_nat (j := 1) rfl, _, rfl, _, _, _, _, rfl, rfl, hw, atI_nat (j := 0) rfl, _, _, rfl, rfl, .inr (by omega), ?_⟩
  refine ⟨_, rfl, _, _, _, _, rfl, rfl, hk, atI_nat (j := 2) rfl, _, rfl, _, _, _, _, rfl, rfl, hw, atI_nat (j := 1) rfl, _, _, rfl, rfl, .inr (by omega), _, _, rfl, rfl, ?_⟩
  refine ⟨_, rfl, _, _, _, _, rfl, rfl, hk, atI_nat (j := 5) rfl, _, rfl, _, _, _, _, rfl, rfl, hk, atI_nat (j := 6) rfl, _, _, rfl, rfl, _, rfl, _, _, _, _, rfl, rfl, hw, atI_nat (j := 2) rfl, _, _, rfl, rfl, .inr (by omega), _, _, rfl, rfl, ?_⟩
  exact q' H2 s02
def spLW (K : PySem.W.Frag) : Sp := fun vs H Q _ => ∃ (r : Addr), vs = [.ref r] ∧ Row K H r ∧ ∀ p w H', SameX r H H' → Row K H' r → IsW K H' p w → w.Good → Q (.ref p) H'
theorem ok__law_weights (T : Nms mg) (D__law_taken : Df K mg "_law_taken" s__law_taken p__law_taken f1 fd1) (F : Fun K "_law_weights" "_law_weights" s__law_weights f fd) : FnOk P w K mg base CX0 2 f fd p__law_weights (spLW K) := by
  have G__law_taken : FnOk P w K mg base CX0 1 f1 fd1 p__law_taken (spTaken K) := ok__law_taken D__law_taken.F T
  refine F.ok sc__law_weights (fun vs H Q E h => ?_) (fun cdv A outer s H vs Q E hr h => ?_)
  · obtain ⟨r, rfl, _⟩ := h
    rfl
  obtain ⟨r, rfl, hR, q⟩ := h
  refine ⟨_, (pss_one (ps_ret (pe_ix ix_list (pe_lst (pa_cons (pe_tup (pa_cons pe_int (pa_cons pe_int (pa_cons pe_int pa_nil)))) (pa_cons (pe_tup (pa_cons pe_int (pa_cons pe_int (pa_cons pe_int pa_nil)))) (pa_cons (pe_callTy call_tuple_of (by rfl) T.n_tuple (by decide +kernel) (pa_cons (pe_lc (own := [("_law_k", 1)]) (g := gName 1) rfl sc__law_weights.nd (pi_range1 rfl T.n_range (pa_cons pe_int pa_nil)) (blkOk_by (own := [("_law_k", 1)]) (N := N__law_weights) (sc := defScope s__law_weights) (by decide +kernel)) (fun _ _ _ _ _ => pg_name (i := 1) sc__law_weights.nd rfl (Or.inl rfl)) (fun _ _ _ _ _ => pts_nil) (fun _ _ _ _ _ => (pe_call G__law_taken (hr.mono (by first | decide | omega)) (by rfl) D__law_taken.m D__law_taken.F.kp D__law_taken.b .nil pass0 (pa_cons (pv 0) (pa_cons pe_int pa_nil))))) pa_nil)) pa_nil)))) (pe_call G__law_taken (hr.mono (by first | decide | omega)) (by rfl) D__law_taken.m D__law_taken.F.kp D__law_taken.b .nil pass0 (pa_cons (pv 0) (pa_cons pe_int pa_nil))) (fun _ _ => rfl)))), ?_⟩
  refine ⟨sz_3, fun p1 n1 => ⟨sz_3, fun p2 n2 => ?_⟩⟩
  have s2 : Same H (upd (upd H p1 (.tup [.int 1, .int 2, .int 1])) p2 (.tup [.int 0, .int 1, .int 0])) := (same_upd n1).trans (same_upd n2)
  have e1 : SqT K (upd (upd H p1 (.tup [.int 1, .int 2, .int 1])) p2 (.tup [.int 0, .int 1, .int 0])) p1 [.int 1, .int 2, .int 1] := sqt (same_upd n2 _ _ upd_same)
  have e2 : SqT K (upd (upd H p1 (.tup [.int 1, .int 2, .int 1])) p2 (.tup [.int 0, .int 1, .int 0])) p2 [.int 0, .int 1, .int 0] := sqt upd_same
  have hR2 := hR.same s2
  generalize upd (upd H p1 (.tup [.int 1, .int 2, .int 1])) p2 (.tup [.int 0, .int 1, .int 0]) = H2 at s2 e1 e2 hR2 ⊢
  refine ⟨_, rfl, by decide, by decide, fun D nD => ?_⟩
  have hDr : D ≠ r := hR2.nr nD
  refine lc_range (lo := 0) (n := ((3 : Int)).toNat) (fun i H' => ∃ ns : List Int, H' D = some (.lst (ns.map V.int)) ∧ ns.length = i ∧ (∀ x ∈ ns, 0 ≤ x ∧ x ≤ 9) ∧ SameX r H2 H' ∧ Row K H' r) ⟨[], upd_same, rfl, fun _ h => (nomatch h), SameX.of (same_upd nD), hR2.same (same_upd nD)⟩ (fun i H' hi h => ?_) (fun H' h => ?_)
  · obtain ⟨ns, e, l, b, sx, hr⟩ := h
    have hi : i < 3 := hi
    refine ⟨rfl, _, rfl, ?_⟩
    refine ⟨r, 10, rfl, hr, by decide, fun x H3 x0 x1 s3 hR3 => ?_⟩
    refine ⟨_, s3 _ _ hDr e, by rw [List.length_map]; exact szl (by omega), ns ++ [x], by rw [upd_same, List.map_append]; rfl, by rw [List.length_append, l]; rfl, fun y hy => ?_, samex_mut (sx.trans s3) nD, hR3.upd ⟨_, s3 _ _ hDr e⟩ hDr⟩
    rcases List.mem_append.mp hy with hy | hy
    · exact b y hy
    · rw [List.mem_singleton.mp hy]
      omega
  · obtain ⟨ns, e, l, b, sx, hr⟩ := h
    obtain ⟨a, b', c, rfl⟩ : ∃ a b c : Int, ns = [a, b, c] := by
      match ns, l with
      | [a, b, c], _ => exact ⟨a, b, c, rfl⟩
    refine ⟨_, _, rfl, .inl ⟨sql e, fun t nt => ?_⟩⟩
    have im3 := Imm.sameX sx hR2.at_
    have s4 : Same H' (upd H' t (.tup ([a, b', c].map V.int))) := same_upd nt
    have e3 : SqT K (upd H' t (.tup ([a, b', c].map V.int))) t [.int a, .int b', .int c] := sqt upd_same
    have e1 := same_t s4 (im3.t e1)
    have e2 := same_t s4 (im3.t e2)
    have hR4 := hr.same s4
    have sx4 := ((SameX.of s2).trans sx).trans (SameX.of s4)
    generalize upd H' t (.tup ([a, b', c].map V.int)) = H4 at e1 e2 e3 hR4 sx4 ⊢
    refine ⟨sz_3, fun l5 n5 => ?_⟩
    have s5 : Same H4 (upd H4 l5 (.lst [.ref p1, .ref p2, .ref t])) := same_upd n5
    have e5 : (upd H4 l5 (.lst [.ref p1, .ref p2, .ref t])) l5 = some (.lst [.ref p1, .ref p2, .ref t]) := upd_same
    have e1 := same_t s5 e1
    have e2 := same_t s5 e2
    have e3 := same_t s5 e3
    have hR5 := hR4.same s5
    have sx5 := sx4.trans (SameX.of s5)
    have n5r := hR4.nr n5
    generalize upd H4 l5 (.lst [.ref p1, .ref p2, .ref t]) = H5 at e5 e1 e2 e3 hR5 sx5 ⊢
    refine ⟨_, rfl, ?_⟩
    refine ⟨r, 3, rfl, hR5, by decide, fun x H6 x0 x1 s6 hR6 => ?_⟩
    have im6 := Imm.sameX s6 hR5.at_
    have e6 := s6 _ _ n5r e5
    have sx6 := sx5.trans s6
    have ba := b a (by simp)
    have bb := b b' (by simp)
    have bc := b c (by simp)
    have : x = 0 ∨ x = 1 ∨ x = 2 := by omega
    rcases this with rfl | rfl | rfl
    · exact ⟨_, _, _, _, rfl, rfl, sql e6, atI_nat (j := 0) rfl, q p1 ⟨1, 2, 1⟩ H6 sx6 hR6 (im6.t e1) ⟨by decide, by decide, by decide, by decide⟩⟩
    · exact ⟨_, _, _, _, rfl, rfl, sql e6, atI_nat (j := 1) rfl, q p2 ⟨0, 1, 0⟩ H6 sx6 hR6 (im6.t e2) ⟨by decide, by decide, by decide, by decide⟩⟩
    · exact ⟨_, _, _, _, rfl, rfl, sql e6, atI_nat (j := 2) rfl, q t ⟨a, b', c⟩ H6 sx6 hR6 (im6.t e3) ⟨ba, bb, bc.1, bc.2⟩⟩
end
end St

namespace St
open PySem PySem.Spec PyProof.Rows L2
abbrev s__law_rows : Stmt := topS 53
abbrev N__law_rows : List Str := ["_law_places", "_law_length", "_law_found", "_law_turn", "_law_longer", "_law_row", "_law_place"]
abbrev p__law_rows : List Str := ["_law_places", "_law_length"]
theorem sc__law_rows : FnScope N__law_rows p__law_rows (defScope s__law_rows) := ⟨rfl, rfl, rfl, by decide +kernel, rfl, by decide +kernel, by decide +kernel⟩
abbrev s__law_worst : Stmt := topS 54
abbrev N__law_worst : List Str := ["_law_setting_here", "_law_one", "_law_other", "_law_weights_here", "_law_rows_here", "_law_best", "_law_places", "_law_row", "_law_more", "_law_place"]
abbrev p__law_worst : List Str := ["_law_setting_here", "_law_one", "_law_other", "_law_weights_here", "_law_rows_here"]
theorem sc__law_worst : FnScope N__law_worst p__law_worst (defScope s__law_worst) := ⟨rfl, rfl, rfl, by decide +kernel, rfl, by decide +kernel, by decide +kernel⟩
def PrRx (N : Addr → Prop) (H : Hp) (as : List Addr) (rs : List (List Int)) : Prop := Paired (fun (p : Addr) (r : List Int) => N p ∧ H p = some (.lst (r.map V.int))) as rs
theorem PrRx.same {N : Addr → Prop} {H H' : Hp} {as : List Addr} {rs : List (List Int)} (h : PrRx N H as rs) (s : Same H H') : PrRx N H' as rs := Paired.mapP h fun _ _ z => ⟨z.1, s _ _ z.2⟩
theorem PrRx.upd {N : Addr → Prop} {D : Addr} {H : Hp} {o : HO} {as : List Addr} {rs : List (List Int)} (h : PrRx N H as rs) (n : ∀ p, N p → p ≠ D) : PrRx N (upd H D o) as rs := Paired.mapP h fun _ _ z => ⟨z.1, by rw [upd_ne (n _ z.1)]; exact z.2⟩
theorem PrRx.app {N : Addr → Prop} {H : Hp} : ∀ {as bs : List Addr} {rs qs : List (List Int)}, PrRx N H as rs → PrRx N H bs qs → PrRx N H (as ++ bs) (rs ++ qs)
  | _, _, _, _, .nil, h => h
  | _, _, _, _, .cons a t, h => .cons a (PrRx.app t h)
/-- rows of places, each a list of its own -/
def PrRw (H : Hp) (as : List Addr) (rs : List (List Int)) : Prop := Paired (fun (p : Addr) (r : List Int) => H p = some (.lst (r.map V.int))) as rs
theorem PrRw.same {H H' : Hp} {as : List Addr} {rs : List (List Int)} (h : PrRw H as rs) (s : Same H H') : PrRw H' as rs := Paired.mapP h fun _ _ z => s _ _ z
theorem paired_at {α β : Type} {G : α → β → Prop} {l₁ : List α} {l₂ : List β} (h : Paired G l₁ l₂) {i : Nat} {a : α} (ha : l₁[i]? = some a) : ∃ b, l₂[i]? = some b ∧ G a b := L2.paired_get h ha
section
variable {P : Program} {w : World} {K : PySem.W.Frag} {mg : Str → Option Value} {base : Heap} {f f1 f2 f3 f4 f5 f6 : Addr} {fd fd1 fd2 fd3 fd4 fd5 fd6 : FuncData}
theorem flat_len (n : Nat) : ∀ l : List (List Int), (l.flatMap fun r => (plR n).map fun p => r ++ [p]).length = l.length * n
  | [] => by simp
  | a :: l => by
    rw [List.flatMap_cons, List.length_append, flat_len n l, List.length_map, List.length_cons, Nat.succ_mul]
    unfold plR
    rw [List.length_map, List.length_range]
    omega
theorem freshS {H H' : Hp} {p : Addr} (s : Same H H') (h : H' p = none) : H p = none := by
  cases e : H p with
  | none => rfl
  | some o => rw [s _ _ e] at h; cases h
def spRows : Sp := fun vs H Q _ => ∃ (n k : Nat), vs = [.int ((n : Nat) : Int), .int ((k : Nat) : Int)] ∧ 1 ≤ n ∧ n ≤ 4 ∧ k ≤ 7 ∧ n ^ k ≤ 1024 ∧ ∀ a as H', Same H H' → H' a = some (.lst (as.map V.ref)) → PrRw H' as (rowsP n k) → Q (.ref a) H'
theorem ok__law_rows (T : Nms mg) (F : Fun K "_law_rows" "_law_rows" s__law_rows f fd) : FnOk P w K mg base CX0 1 f fd p__law_rows spRows := by
  refine F.ok sc__law_rows (fun vs H Q E h => ?_) (fun cdv A outer s H vs Q E hr h => ?_)
  · obtain ⟨n, k, rfl, _⟩ := h
    rfl
  obtain ⟨n, k, rfl, n1, n4, k7, nk, q⟩ := h
  refine ⟨_, (pss_cons (ps_set (i := 2) sc__law_rows.nd rfl (Or.inl rfl) (pe_lst (pa_cons (pe_lst pa_nil) pa_nil)))
  (pss_cons (ps_for PassesOwn.never rfl (pi_range1 rfl T.n_range (pa_cons (pv 1) pa_nil)) (pg_name (i := 3) sc__law_rows.nd rfl (Or.inl rfl))
    (pss_cons (ps_set (i := 4) sc__law_rows.nd rfl (Or.inl rfl) (pe_lst pa_nil))
    (pss_cons (ps_for PassesOwn.never rfl (pi_list (pv 2)) (pg_name (i := 5) sc__law_rows.nd rfl (Or.inr rfl))
      (pss_one (ps_expr (pe_bm PySem.F.plainAttrs_list PySem.F.slot_list_extend PySem.F.type_list_extend mt_extend (pv 4) (pa_cons (pe_lc (own := [("_law_place", 6)]) (g := gName 6) rfl sc__law_rows.nd (pi_range1 rfl T.n_range (pa_cons (pv 0) pa_nil)) (blkOk_by (own := [("_law_place", 6)]) (N := N__law_rows) (sc := defScope s__law_rows) (by decide +kernel)) (fun _ _ _ _ _ => pg_name (i := 6) sc__law_rows.nd rfl (Or.inl rfl)) (fun _ _ _ _ _ => pts_nil) (fun _ _ _ _ _ => (pe_op op_cat (pv 5) (pe_lst (pa_cons (pv 6) pa_nil))))) pa_nil)))))
    (pss_one (ps_set (i := 2) sc__law_rows.nd rfl (Or.inl rfl) (pv 4))))))
  (pss_one (ps_ret (pv 2))))), ?_⟩
  refine ⟨Nat.zero_le _, fun r0 nr0 => ?_⟩
  refine ⟨sz_1, fun F nF => ?_⟩
  refine ⟨_, rfl, _, rfl, by omega, by omega, ?_⟩
  rw [show (((k : Nat) : Int)).toNat = k from Int.toNat_natCast _]
  refine for_range (lo := 0) (n := k) (fun i σ H' => ∃ a as y3 y4 y5, σ = [some (.int ((n : Nat) : Int)), some (.int ((k : Nat) : Int)), some (.ref a), y3, y4, y5, none] ∧ Same H H' ∧ H' a = some (.lst (as.map V.ref)) ∧ PrRw H' as (rowsP n i))
    ⟨F, [r0], none, none, none, rfl, (same_upd nr0).trans (same_upd nF), upd_same, .cons (same_upd nF _ _ upd_same) .nil⟩ (fun i σ H' hi h => ?_) (fun σ H' h => ?_)
  · obtain ⟨a, as, y3, y4, y5, rfl, s1, ea, pa⟩ := h
    have hik : n ^ (i + 1) ≤ n ^ k := Nat.pow_le_pow_right n1 (by omega)
    have hlen : (rowsP n i).length * n ≤ 1024 := by rw [rows_count, show n ^ i * n = n ^ (i + 1) from rfl]; omega
    have las : as.length = (rowsP n i).length := Paired.length pa
    have erows : rowsP n (i + 1) = (rowsP n i).flatMap fun r => (plR n).map fun p => r ++ [p] := rfl
    have rl : ∀ r ∈ rowsP n i, r.length = i := fun r hr => rows_len hr
    generalize rowsP n i = R at pa hlen las erows rl
    refine ⟨Nat.zero_le _, fun L nL => ?_⟩
    refine ⟨_, rfl, a, rfl, ⟨_, sql (same_upd nL _ _ ea)⟩, ?_⟩
    refine for_list (xs := as.map V.ref) (fun j σ H3 => ∃ y5 bs, σ = [some (.int ((n : Nat) : Int)), some (.int ((k : Nat) : Int)), some (.ref a), some (.int (0 + ((i : Nat) : Int))), some (.ref L), y5, none] ∧ Same H' H3 ∧ H3 L = some (.lst (bs.map V.ref)) ∧ PrRx (· ≠ L) H3 bs ((R.take j).flatMap fun r => (plR n).map fun p => r ++ [p]))
      ⟨y5, [], rfl, same_upd nL, upd_same, .nil⟩ (fun j σ H3 _ h => ?_) (fun j x σ H3 hj h => ?_) (fun σ H3 h => ?_)
    · obtain ⟨y5, bs, rfl, s3, _⟩ := h
      exact sql (s3 _ _ ea)
    · obtain ⟨y5, bs, rfl, s3, eL, pb⟩ := h
      rw [List.getElem?_map] at hj
      obtain ⟨ra, hra, rfl⟩ := Option.map_eq_some_iff.mp hj
      obtain ⟨r, hr, er⟩ := paired_at pa hra
      have lr := rl r (List.mem_of_getElem? hr)
      have hjl : j < R.length := (List.getElem?_eq_some_iff.mp hr).1
      have er3 := s3 _ _ er
      refine ⟨_, rfl, .inl ⟨rfl, _, sql eL⟩, ?_⟩
      refine ⟨_, rfl, _, rfl, by omega, by omega, fun D nD => ?_⟩
      rw [show (((n : Nat) : Int)).toNat = n from Int.toNat_natCast _]
      refine lc_range (lo := 0) (n := n) (fun m H4 => ∃ ds, Same H3 H4 ∧ H4 D = some (.lst (ds.map V.ref)) ∧ PrRx (fun p => H3 p = none ∧ p ≠ D) H4 ds (((plR n).take m).map fun p => r ++ [p])) ⟨[], same_upd nD, upd_same, .nil⟩ (fun m H4 hm h => ?_) (fun H4 h => ?_)
      · obtain ⟨ds, s4, eD, pd⟩ := h
        have ld : ds.length ≤ 4 := by rw [Paired.length pd, List.length_map, List.length_take]; omega
        refine ⟨rfl, ?_⟩
        refine ⟨_, rfl, _, rfl, sz_1, fun l1 nl1 => ?_⟩
        have w1 := same_upd (o := .lst [.int (0 + ((m : Nat) : Int))]) nl1
        refine ⟨ra, l1, _, _, rfl, rfl, w1 _ _ (s4 _ _ er3), upd_same, by rw [List.length_map]; exact sz (by show _ + 1 ≤ 1000000; omega), fun r2 nr2 => ?_⟩
        have w2 := w1.trans (same_upd (o := .lst (r.map V.int ++ [.int (0 + ((m : Nat) : Int))])) nr2)
        have eD2 := w2 _ _ eD
        have nr2D : r2 ≠ D := fun z => by subst z; rw [w1 _ _ eD] at nr2; cases nr2
        refine ⟨_, eD2, by rw [List.length_map]; exact szl (by omega), ds ++ [r2], same_mut (s4.trans w2) nD, by rw [upd_same, List.map_append]; rfl, ?_⟩
        rw [plR_take hm, List.map_append]
        exact Paired.snoc ((pd.same w2).upd fun _ z => z.2) ⟨⟨freshS (s4.trans w1) nr2, nr2D⟩, by rw [upd_ne nr2D, upd_same, List.map_append]; rfl⟩
      · obtain ⟨ds, s4, eD, pd⟩ := h
        have ld : ds.length = n := by rw [Paired.length pd, List.length_map, List.length_take]; unfold plR; rw [List.length_map, List.length_range]; omega
        have eL4 := s4 _ _ eL
        have lb : bs.length ≤ 1024 := by
          have h1 : bs.length = ((R.take j).flatMap fun r => (plR n).map fun p => r ++ [p]).length := Paired.length pb
          have h2 : ((R.take j).flatMap fun r => (plR n).map fun p => r ++ [p]).length = (R.take j).length * n := flat_len n _
          have h3 : (R.take j).length * n ≤ R.length * n := Nat.mul_le_mul_right n (by rw [List.length_take]; omega)
          omega
        have pdL : PrRx (· ≠ L) H4 ds (List.map (fun p => r ++ [p]) (List.take n (plR n))) := Paired.mapP pd fun _ _ z => ⟨fun q => (by have := z.1.1; rw [q, eL] at this; cases this), z.2⟩
        refine ⟨L, D, _, _, rfl, rfl, eL4, eD, by rw [List.length_map, List.length_map]; exact sz (by omega), ?_⟩
        refine ⟨_, bs ++ ds, rfl, same_mut (s3.trans s4) nL, by rw [upd_same, List.map_append], ?_⟩
        rw [List.take_add_one, hr, List.flatMap_append]
        refine PrRx.upd ((pb.same s4).app ?_) fun _ z => z
        rw [show (plR n).take n = plR n from List.take_of_length_le (by unfold plR; rw [List.length_map, List.length_range]; omega)] at pdL
        simpa using pdL
    · obtain ⟨y5, bs, rfl, s3, eL, pb⟩ := h
      have : R.take (as.map V.ref).length = R := List.take_of_length_le (by rw [List.length_map, las]; exact Nat.le_refl _)
      rw [this] at pb
      exact ⟨_, rfl, L, bs, _, _, _, rfl, s1.trans s3, eL, by rw [erows]; exact Paired.mapP pb fun _ _ z => z.2⟩
  · obtain ⟨a, as, y3, y4, y5, rfl, s1, ea, pa⟩ := h
    exact ⟨_, rfl, q a as H' s1 ea pa⟩
def spLWo (K : PySem.W.Frag) : Sp := fun vs H Q _ => ∃ (sa wp ra : Addr) (v1 v2 : V) (s : Stg) (g1 g2 : G) (wt : Wts) (n k : Nat) (as : List Addr), vs = [.ref sa, v1, v2, .ref wp, .ref ra] ∧ IsSet K H sa s ∧ s.Good ∧ IsG K H g1 v1 ∧ good 3 g1 = true ∧ IsG K H g2 v2 ∧ good 3 g2 = true ∧ IsW K H wp wt ∧ wt.Good ∧
  1 ≤ n ∧ n ≤ s.mem.length ∧ k ≤ 7 ∧ H ra = some (.lst (as.map V.ref)) ∧ PrRw H as (rowsP n k) ∧
  ∀ t rr H', Same H H' → SqT K H' t [.int (worstP s g1 g2 wt n k).1, .ref rr] → H' rr = some (.lst ((worstP s g1 g2 wt n k).2.map V.int)) → Q (.ref t) H'
/-- what is best so far, as it lies in memory -/
def IsB (K : PySem.W.Frag) (H : Hp) (v : V) : Option (Int × List Int) → Prop
  | none => v = .non
  | some o => ∃ t rr, v = .ref t ∧ SqT K H t [.int o.1, .ref rr] ∧ H rr = some (.lst (o.2.map V.int))
theorem IsB.same {H H' : Hp} {v : V} : ∀ {o : Option (Int × List Int)}, IsB K H v o → Same H H' → IsB K H' v o
  | none, h, _ => h
  | some _, ⟨t, rr, e, h1, h2⟩, s => ⟨t, rr, e, same_t s h1, s _ _ h2⟩
theorem ok__law_worst (D__law_laid : Df K mg "_law_laid" s__law_laid p__law_laid f1 fd1) (D__law_asked : Df K mg "_law_asked" s__law_asked p__law_asked f2 fd2) (D__law_guessed : Df K mg "_law_guessed" s__law_guessed p__law_guessed f3 fd3) (D__law_run : Df K mg "_law_run" s__law_run p__law_run f4 fd4) (D__law_counts : Df K mg "_law_counts" s__law_counts p__law_counts f5 fd5)
    (D__law_cost : Df K mg "_law_cost" s__law_cost p__law_cost f6 fd6) (T : Nms mg) (F : Fun K "_law_worst" "_law_worst" s__law_worst f fd) : FnOk P w K mg base CX0 7 f fd p__law_worst (spLWo K) := by
  have G__law_cost : FnOk P w K mg base CX0 6 f6 fd6 p__law_cost (spCost K) := ok__law_cost T D__law_laid D__law_asked D__law_guessed D__law_run D__law_counts D__law_cost.F
  refine F.ok sc__law_worst (fun vs H Q E h => ?_) (fun cdv A outer s H vs Q E hr h => ?_)
  · obtain ⟨sa, wp, ra, v1, v2, s, g1, g2, wt, n, k, as, rfl, _⟩ := h
    rfl
  obtain ⟨sa, wp, ra, v1, v2, s, g1, g2, wt, n, k, as, rfl, hS, gS, hG1, gd1, hG2, gd2, hw, gw, n1, nm, k7, era, pra, q⟩ := h
  refine ⟨_, (pss_cons (ps_set (i := 5) sc__law_worst.nd rfl (Or.inl rfl) pe_non)
  (pss_cons (ps_for PassesOwn.never rfl (pi_list (pv 4)) (pg_name (i := 6) sc__law_worst.nd rfl (Or.inl rfl))
    (pss_cons (ps_setLc (i := 7) (own := [("_law_place", 9)]) (g := gName 9) rfl sc__law_worst.nd rfl rfl (sw_true rfl rfl rfl (by decide +kernel)) (pi_list (pv 6)) (blkOk_by (own := [("_law_place", 9)]) (N := N__law_worst) (sc := defScope s__law_worst) (by decide +kernel)) (fun _ _ _ _ _ => pg_name (i := 9) sc__law_worst.nd rfl (Or.inl rfl)) (fun _ _ _ _ _ => pts_nil) (fun _ _ _ _ _ => (pe_tup (pa_cons pe_str (pa_cons (pv 9) pa_nil)))))
    (pss_cons (ps_set (i := 8) sc__law_worst.nd rfl (Or.inl rfl) (pe_op op_sub (pe_call G__law_cost (hr.mono (by first | decide | omega)) (by rfl) D__law_cost.m D__law_cost.F.kp D__law_cost.b .nil pass0 (pa_cons (pv 0) (pa_cons (pv 1) (pa_cons (pv 7) (pa_cons (pv 3) pa_nil))))) (pe_call G__law_cost (hr.mono (by first | decide | omega)) (by rfl) D__law_cost.m D__law_cost.F.kp D__law_cost.b .nil pass0 (pa_cons (pv 0) (pa_cons (pv 2) (pa_cons (pv 7) (pa_cons (pv 3) pa_nil)))))))
    (pss_one (ps_if (PW.pt (pw_or (pt_cmpR op_isN (pv 5) pe_non (nomark _)) (pw_or1 (pt_cmpR op_gt (pv 8) (pe_ix ix_tup (pv 5) pe_int (fun _ _ => rfl)) (nomark _)))))
      (pss_one (ps_set (i := 5) sc__law_worst.nd rfl (Or.inl rfl) (pe_tup (pa_cons (pv 8) (pa_cons (pv 6) pa_nil)))))
      (pss_nil))))))
  (pss_one (ps_ret (pv 5))))), ?_⟩
  refine ⟨_, rfl, ra, rfl, ⟨_, sql era⟩, ?_⟩
  refine for_list (xs := as.map V.ref) (fun j σ H' => ∃ vb y6 y7 y8, σ = [some (.ref sa), some v1, some v2, some (.ref wp), some (.ref ra), some vb, y6, y7, y8, none] ∧ Same H H' ∧ IsB K H' vb (((rowsP n k).take j).foldl (bestL (moreL (cfgOf s g1) (cfgOf s g2) wt)) none))
    ⟨.non, none, none, none, rfl, Same.refl _, rfl⟩ (fun j σ H' _ h => ?_) (fun j x σ H' hj h => ?_) (fun σ H' h => ?_)
  · obtain ⟨vb, y6, y7, y8, rfl, s1, _⟩ := h
    exact sql (s1 _ _ era)
  · obtain ⟨vb, y6, y7, y8, rfl, s1, hb⟩ := h
    rw [List.getElem?_map] at hj
    obtain ⟨pa, hpa, rfl⟩ := Option.map_eq_some_iff.mp hj
    obtain ⟨ps, hps, ep⟩ := paired_at pra hpa
    have hm := List.mem_of_getElem? hps
    have lps := rows_len hm
    have hin := rows_in hm
    have ep1 := s1 _ _ ep
    rw [List.take_add_one, hps, List.foldl_append]
    generalize ((rowsP n k).take j).foldl (bestL (moreL (cfgOf s g1) (cfgOf s g2) wt)) none = B at hb ⊢
    refine ⟨_, rfl, pa, rfl, ⟨_, sql ep1⟩, fun D nD => ?_⟩
    refine lc_list (xs := ps.map V.int) (fun m H3 => ∃ ds, Same H' H3 ∧ H3 D = some (.lst (ds.map V.ref)) ∧ PrD K H3 ds (rdD (ps.take m))) ⟨[], same_upd nD, upd_same, .nil⟩ (fun m H3 _ h => ?_) (fun m y H3 hy h => ?_) (fun H3 h => ?_)
    · obtain ⟨ds, s3, _⟩ := h
      exact sql (s3 _ _ ep1)
    · obtain ⟨ds, s3, eD, pd⟩ := h
      rw [List.getElem?_map] at hy
      obtain ⟨p, hp, rfl⟩ := Option.map_eq_some_iff.mp hy
      have ld : ds.length ≤ 7 := by rw [Paired.length pd, rdD_len, List.length_take]; omega
      refine ⟨rfl, _, rfl, sz_2, fun t nt => ?_⟩
      have w1 := same_upd (o := .tup [.str "read", .int p]) nt
      have eD1 := w1 _ _ eD
      have im := Imm.upd (o := .lst (ds.map V.ref ++ [.ref t])) ⟨_, eD1⟩
      refine ⟨_, eD1, by rw [List.length_map]; exact szl (by omega), ds ++ [t], same_mut (s3.trans w1) nD, by rw [upd_same, List.map_append]; rfl, ?_⟩
      rw [List.take_add_one, hp]
      unfold rdD
      rw [List.map_append]
      exact Paired.snoc (Paired.mapP pd fun _ _ z => (z.imm (Imm.same w1)).imm im) (im.t (sqt upd_same))
    · obtain ⟨ds, s3, eD, pd⟩ := h
      rw [show ps.take (ps.map V.int).length = ps from List.take_of_length_le (by rw [List.length_map]; exact Nat.le_refl _)] at pd
      have s13 := s1.trans s3
      have gds := rdD_good (n := ((s.mem.length : Nat) : Int)) (ps := ps) (fun p hp => by have := hin p hp; omega)
      refine ⟨_, rfl, _, rfl, _, rfl, _, rfl, ?_⟩
      refine ⟨sa, D, wp, v1, s, g1, ds, rdD ps, wt, rfl, hS.imm (Imm.same s13), gS, hG1.same s13, gd1, sql eD, pd, gds, by rw [rdD_len]; omega, same_t s13 hw, gw, fun H4 s4 => ?_⟩
      have s14 := s13.trans s4
      refine ⟨_, rfl, _, rfl, _, rfl, _, rfl, ?_⟩
      refine ⟨sa, D, wp, v2, s, g2, ds, rdD ps, wt, rfl, hS.imm (Imm.same s14), gS, hG2.same s14, gd2, sql (s4 _ _ eD), Paired.mapP pd (fun _ _ z => z.imm (Imm.same s4)), gds, by rw [rdD_len]; omega, same_t s14 hw, gw, fun H5 s5 => ?_⟩
      have s15 := s14.trans s5
      refine ⟨_, _, rfl, rfl, ?_⟩
      dsimp only
      rw [← moreL_cost s g1 g2 wt ps]
      have hb5 := hb.same (s3.trans (s4.trans s5))
      have ep5 := s15 _ _ ep
      refine ⟨_, rfl, rfl, _, rfl, ?_⟩
      -- kept or stored
      have fin : ∀ (t : Addr), H5 t = none → bestL (moreL (cfgOf s g1) (cfgOf s g2) wt) B ps = some (moreL (cfgOf s g1) (cfgOf s g2) wt ps, ps) →
          Same H (upd H5 t (.tup [.int (moreL (cfgOf s g1) (cfgOf s g2) wt ps), .ref pa])) ∧ IsB K (upd H5 t (.tup [.int (moreL (cfgOf s g1) (cfgOf s g2) wt ps), .ref pa])) (.ref t) (bestL (moreL (cfgOf s g1) (cfgOf s g2) wt) B ps) := fun t nt e => by
        rw [e]
        exact ⟨s15.trans (same_upd nt), t, pa, rfl, sqt upd_same, same_upd nt _ _ ep5⟩
      cases B with
      | none =>
        cases hb5
        refine iteB (decide_eq_true rfl) (iteB rfl ?_)
        refine ⟨_, rfl, _, rfl, sz_2, fun t nt => ?_⟩
        obtain ⟨f1, f2⟩ := fin t nt rfl
        exact ⟨_, _, _, _, rfl, f1, f2⟩
      | some o =>
        obtain ⟨t0, rr, rfl, h1, h2⟩ := hb5
        refine iteB0 (decide_eq_false fun z => nomatch z) ?_
        refine ⟨_, rfl, _, rfl, _, _, _, _, rfl, rfl, h1, atI_nat (j := 0) rfl, _, _, rfl, rfl, _, rfl, ?_⟩
        by_cases c : o.1 < moreL (cfgOf s g1) (cfgOf s g2) wt ps
        · refine iteB (decide_eq_true c) ?_
          refine ⟨_, rfl, _, rfl, sz_2, fun t nt => ?_⟩
          obtain ⟨f1, f2⟩ := fin t nt (if_pos c)
          exact ⟨_, _, _, _, rfl, f1, f2⟩
        · refine iteB0 (decide_eq_false c) ?_
          refine ⟨_, _, _, _, rfl, s15, ?_⟩
          show IsB K H5 (.ref t0) (bestL (moreL (cfgOf s g1) (cfgOf s g2) wt) (some o) ps)
          rw [show bestL (moreL (cfgOf s g1) (cfgOf s g2) wt) (some o) ps = some o from if_neg c]
          exact ⟨t0, rr, rfl, h1, h2⟩
  · obtain ⟨vb, y6, y7, y8, rfl, s1, hb⟩ := h
    rw [show (rowsP n k).take (as.map V.ref).length = rowsP n k from List.take_of_length_le (by rw [List.length_map, Paired.length pra]; exact Nat.le_refl _)] at hb
    have hp : 0 < n ^ k := Nat.pow_pos n1
    have hl := rows_count n k
    have bs : ∀ (f : List Int → Int) (R : List (List Int)) (o : Option (Int × List Int)), o ≠ none ∨ R ≠ [] → R.foldl (bestL f) o ≠ none := fun f R => by
      induction R with
      | nil => intro o h; rcases h with h | h
               · exact h
               · exact absurd rfl h
      | cons r R ih =>
        intro o _
        refine ih _ (.inl ?_)
        cases o with
        | none => exact fun z => nomatch z
        | some o =>
          show (if o.1 < f r then some (f r, r) else some o) ≠ none
          split <;> exact fun z => nomatch z
    cases hB : (rowsP n k).foldl (bestL (moreL (cfgOf s g1) (cfgOf s g2) wt)) none with
    | none => exact absurd hB (bs _ _ _ (.inr fun z => by rw [z] at hl; rw [← hl] at hp; exact absurd hp (by decide)))
    | some o =>
      rw [hB] at hb
      obtain ⟨t, rr, rfl, h1, h2⟩ := hb
      refine ⟨_, rfl, q t rr H' s1 ?_ ?_⟩
      · unfold worstP; rw [hB]; exact h1
      · unfold worstP; rw [hB]; exact h2
end
end St

namespace St
open PySem PySem.Spec PyProof.Rows L2
abbrev s__law_alike : Stmt := topS 43
abbrev N__law_alike : List Str := ["_law_found", "_law_due", "_law_k"]
abbrev p__law_alike : List Str := ["_law_found", "_law_due"]
theorem sc__law_alike : FnScope N__law_alike p__law_alike (defScope s__law_alike) := ⟨rfl, rfl, rfl, by decide +kernel, rfl, by decide +kernel, by decide +kernel⟩
section
variable {P : Program} {w : World} {K : PySem.W.Frag} {mg : Str → Option Value} {base : Heap} {f : Addr} {fd : FuncData}
theorem ok__law_alike (T : Nms mg) (D__law_alike : Df K mg "_law_alike" s__law_alike p__law_alike f fd) : ∀ n : Nat, FnOk P w K mg base CX0 n f fd p__law_alike (spAlike K n)
  | 0 => fn_zero fun vs H Q E ⟨v1, v2, d, _, _, _, h, _⟩ => h
  | n + 1 => by
    have G__law_alike := ok__law_alike T D__law_alike n
    refine D__law_alike.F.ok sc__law_alike (fun vs H Q E h => ?_) (fun cdv A outer s H vs Q E hr h => ?_)
    · obtain ⟨r, m, wi, rfl, _⟩ := h
      rfl
    obtain ⟨v1, v2, d, rfl, h1, h2, hd, q⟩ := h
    refine ⟨_, (pss_cons (ps_if (PW.pt (pw_or (pt_val (pe_callB call_isi (by rfl) T.n_isinstance (by decide +kernel) (pa_cons (pv 1) (pa_cons (pe_bltn (v := .ty "tuple") (u := .type "tuple") (by rfl) T.n_tuple (by decide +kernel) rfl) pa_nil)))) (pw_or1 (pt_val (pe_callB call_isi (by rfl) T.n_isinstance (by decide +kernel) (pa_cons (pv 1) (pa_cons (pe_bltn (v := .ty "list") (u := .type "list") (by rfl) T.n_list (by decide +kernel) rfl) pa_nil)))))))
    (pss_cons (ps_if (PW.pt (pw_or (pt_cmpR op_ne (pe_callB call_isi (by rfl) T.n_isinstance (by decide +kernel) (pa_cons (pv 0) (pa_cons (pe_bltn (v := .ty "tuple") (u := .type "tuple") (by rfl) T.n_tuple (by decide +kernel) rfl) pa_nil))) (pe_callB call_isi (by rfl) T.n_isinstance (by decide +kernel) (pa_cons (pv 1) (pa_cons (pe_bltn (v := .ty "tuple") (u := .type "tuple") (by rfl) T.n_tuple (by decide +kernel) rfl) pa_nil))) (nomark _)) (pw_or1 (pt_not (pt_val (pe_callB call_isiT (by rfl) T.n_isinstance (by decide +kernel) (pa_cons (pv 0) (pa_cons (pe_tup (pa_cons (pe_bltn (v := .ty "tuple") (u := .type "tuple") (by rfl) T.n_tuple (by decide +kernel) rfl) (pa_cons (pe_bltn (v := .ty "list") (u := .type "list") (by rfl) T.n_list (by decide +kernel) rfl) pa_nil))) pa_nil))))))))
      (pss_one (ps_ret pe_bl))
      (pss_nil))
    (pss_cons (ps_if (pt_cmpR op_ne (pe_callB call_len_seq (by rfl) T.n_len (by decide +kernel) (pa_cons (pv 0) pa_nil)) (pe_callB call_len_seq (by rfl) T.n_len (by decide +kernel) (pa_cons (pv 1) pa_nil)) (nomark _))
      (pss_one (ps_ret pe_bl))
      (pss_nil))
    (pss_one (ps_ret (pe_cmpR (op_eqD hr.units) (pe_lc (own := [("_law_k", 2)]) (g := gName 2) rfl sc__law_alike.nd (pi_range1 rfl T.n_range (pa_cons (pe_callB call_len_seq (by rfl) T.n_len (by decide +kernel) (pa_cons (pv 1) pa_nil)) pa_nil)) (blkOk_by (own := [("_law_k", 2)]) (N := N__law_alike) (sc := defScope s__law_alike) (by decide +kernel)) (fun _ _ _ _ _ => pg_name (i := 2) sc__law_alike.nd rfl (Or.inl rfl)) (fun _ _ _ _ _ => pts_one (pt_not (pt_val (pe_call G__law_alike (hr.mono (by first | decide | omega)) (by rfl) D__law_alike.m D__law_alike.F.kp D__law_alike.b .nil pass0 (pa_cons (pe_ix (ix_seqK (K := K)) (pv 0) (pv 2) (fun _ _ => rfl)) (pa_cons (pe_ix (ix_seqK (K := K)) (pv 1) (pv 2) (fun _ _ => rfl)) pa_nil)))))) (fun _ _ _ _ _ => (pv 2))) (pe_lst pa_nil) (nomark _))))))
    (pss_nil))
  (pss_cons (ps_if (PW.pt (pw_or (pt_cmpR op_isN (pv 1) pe_non (nomark _)) (pw_or1 (pt_cmpR op_isN (pv 0) pe_non (nomark _)))))
    (pss_one (ps_ret (pe_and (pe_cmpR op_isN (pv 1) pe_non (nomark _)) (pe_one (pe_cmpR op_isN (pv 0) pe_non (nomark _))))))
    (pss_nil))
  (pss_cons (ps_if (PW.pt (pw_or (pt_val (pe_callB call_isi (by rfl) T.n_isinstance (by decide +kernel) (pa_cons (pv 1) (pa_cons (pe_bltn (v := .ty "bool") (u := .type "bool") (by rfl) T.n_bool (by decide +kernel) rfl) pa_nil)))) (pw_or1 (pt_val (pe_callB call_isi (by rfl) T.n_isinstance (by decide +kernel) (pa_cons (pv 0) (pa_cons (pe_bltn (v := .ty "bool") (u := .type "bool") (by rfl) T.n_bool (by decide +kernel) rfl) pa_nil)))))))
    (pss_one (ps_ret (pe_and (pe_callB call_isi (by rfl) T.n_isinstance (by decide +kernel) (pa_cons (pv 1) (pa_cons (pe_bltn (v := .ty "bool") (u := .type "bool") (by rfl) T.n_bool (by decide +kernel) rfl) pa_nil))) (pe_and (pe_callB call_isi (by rfl) T.n_isinstance (by decide +kernel) (pa_cons (pv 0) (pa_cons (pe_bltn (v := .ty "bool") (u := .type "bool") (by rfl) T.n_bool (by decide +kernel) rfl) pa_nil))) (pe_one (pe_cmpR op_eq (pv 0) (pv 1) (nomark _)))))))
    (pss_nil))
  (pss_cons (ps_if (pt_val (pe_callB call_isi (by rfl) T.n_isinstance (by decide +kernel) (pa_cons (pv 1) (pa_cons (pe_bltn (v := .ty "str") (u := .type "str") (by rfl) T.n_str (by decide +kernel) rfl) pa_nil))))
    (pss_one (ps_ret (pe_and (pe_callB call_isi (by rfl) T.n_isinstance (by decide +kernel) (pa_cons (pv 0) (pa_cons (pe_bltn (v := .ty "str") (u := .type "str") (by rfl) T.n_str (by decide +kernel) rfl) pa_nil))) (pe_one (pe_cmpR op_eq (pv 0) (pv 1) (nomark _))))))
    (pss_nil))
  (pss_one (ps_ret (pe_and (pe_callB call_isi (by rfl) T.n_isinstance (by decide +kernel) (pa_cons (pv 0) (pa_cons (pe_bltn (v := .ty "int") (u := .type "int") (by rfl) T.n_int (by decide +kernel) rfl) pa_nil))) (pe_one (pe_cmpR op_eq (pv 0) (pv 1) (nomark _)))))))))), ?_⟩
    cases d with
    | none =>
      cases h1; cases h2
      have t2 : TyX K H .non (.type "NoneType") := .base .non
      and_intros
      exact q _ (Same.refl _)
    | bool b =>
      cases h1; cases h2
      have t2 : TyX K H (.bl b) (.type "bool") := .base (.bl b)
      and_intros
      rw [decide_eq_true rfl]
      exact q _ (Same.refl _)
    | int b =>
      cases h1; cases h2
      have t2 : TyX K H (.int b) (.type "int") := .base (.int b)
      and_intros
      rw [decide_eq_true rfl]
      exact q _ (Same.refl _)
    | str b =>
      cases h1; cases h2
      have t2 : TyX K H (.str b) (.type "str") := .base (.str b)
      and_intros
      rw [decide_eq_true rfl]
      exact q _ (Same.refl _)
    | dict _ => cases h1
    | list ds =>
      cases h1 with
      | @lst a1 xs1 _ l1 al1 =>
      cases h2 with
      | @lst a2 xs2 _ l2 al2 =>
      have t1 : TyX K H (.ref a1) (.type "list") := tyx_L l1
      have t2 : TyX K H (.ref a2) (.type "list") := tyx_L l2
      and_intros
      intro T nT
      have e1 := dlen al1
      have e2 := dlen al2
      have hlen : ds.length ≤ 100000 := hd.1
      have l1' := same_l (same_upd (o := .tup [.ty "tuple", .ty "list"]) nT) l1
      have l2' := same_l (same_upd (o := .tup [.ty "tuple", .ty "list"]) nT) l2
      have sT : Same H (upd H T (.tup [.ty "tuple", .ty "list"])) := same_upd nT
      refine ⟨_, _, _, _, _, true, rfl, upd_same, .cons (.ty _) (.cons (.ty _) .nil), tyx_L l1', tup_list (.inr rfl), ?_⟩
      generalize upd H T (.tup [.ty "tuple", .ty "list"]) = H1 at l1' l2' sT ⊢
      and_intros
      refine iteB0 (by rw [e1, e2, decide_eq_true rfl]; rfl) ?_
      and_intros
      intro D nD
      refine lc_range (lo := 0) (n := (((xs2.length : Nat) : Int)).toNat) (fun i H' => Same H1 H' ∧ H' D = some (.lst [])) ⟨same_upd nD, upd_same⟩ (fun i H' hi h => ?_) (fun H' h => ?_)
      · have hi' : i < ds.length := by omega
        obtain ⟨x1, g1, p1⟩ := dat al1 (List.getElem?_eq_getElem hi')
        obtain ⟨x2, g2, p2⟩ := dat al2 (List.getElem?_eq_getElem hi')
        have z : ((0 : Int) + (i : Int)) = ((i : Nat) : Int) := by omega
        rw [z]
        and_intros
        refine .inl ⟨_, _, _, _, rfl, rfl, same_l h.1 l1', atI_nat g1, ?_⟩
        and_intros
        refine .inl ⟨_, _, _, _, rfl, rfl, same_l h.1 l2', atI_nat g2, ?_⟩
        have sH : Same H H' := sT.trans h.1
        refine ⟨x1, x2, ds[i], rfl, dsame p1 sH, dsame p2 sH, hd.2 _ (List.getElem_mem hi'), fun H2 s2 => ?_⟩
        and_intros
        exact ⟨h.1.trans s2, s2 _ _ h.2⟩
      · and_intros
        intro L nL
        refine ⟨.list [], .list [], .lst (sql (same_upd nL _ _ h.2)) .nil, .lst (sql upd_same) .nil, rfl, rfl, ?_⟩
        exact q _ ((sT.trans h.1).trans (same_upd nL))
    | tuple ds =>
      cases h1 with
      | @tup a1 xs1 _ l1 al1 =>
      cases h2 with
      | @tup a2 xs2 _ l2 al2 =>
      have t1 : TyX K H (.ref a1) (.type "tuple") := tyx_T l1
      have t2 : TyX K H (.ref a2) (.type "tuple") := tyx_T l2
      and_intros
      intro T nT
      have e1 := dlen al1
      have e2 := dlen al2
      have hlen : ds.length ≤ 100000 := hd.1
      have l1' := same_t (same_upd (o := .tup [.ty "tuple", .ty "list"]) nT) l1
      have l2' := same_t (same_upd (o := .tup [.ty "tuple", .ty "list"]) nT) l2
      have sT : Same H (upd H T (.tup [.ty "tuple", .ty "list"])) := same_upd nT
      refine ⟨_, _, _, _, _, true, rfl, upd_same, .cons (.ty _) (.cons (.ty _) .nil), tyx_T l1', tup_list (.inl rfl), ?_⟩
      generalize upd H T (.tup [.ty "tuple", .ty "list"]) = H1 at l1' l2' sT ⊢
      and_intros
      refine iteB0 (by rw [e1, e2, decide_eq_true rfl]; rfl) ?_
      and_intros
      intro D nD
      refine lc_range (lo := 0) (n := (((xs2.length : Nat) : Int)).toNat) (fun i H' => Same H1 H' ∧ H' D = some (.lst [])) ⟨same_upd nD, upd_same⟩ (fun i H' hi h => ?_) (fun H' h => ?_)
      · have hi' : i < ds.length := by omega
        obtain ⟨x1, g1, p1⟩ := dat al1 (List.getElem?_eq_getElem hi')
        obtain ⟨x2, g2, p2⟩ := dat al2 (List.getElem?_eq_getElem hi')
        have z : ((0 : Int) + (i : Int)) = ((i : Nat) : Int) := by omega
        rw [z]
        and_intros
        refine .inr <| .inl ⟨_, _, _, _, rfl, rfl, same_t h.1 l1', atI_nat g1, ?_⟩
        and_intros
        refine .inr <| .inl ⟨_, _, _, _, rfl, rfl, same_t h.1 l2', atI_nat g2, ?_⟩
        have sH : Same H H' := sT.trans h.1
        refine ⟨x1, x2, ds[i], rfl, dsame p1 sH, dsame p2 sH, hd.2 _ (List.getElem_mem hi'), fun H2 s2 => ?_⟩
        and_intros
        exact ⟨h.1.trans s2, s2 _ _ h.2⟩
      · and_intros
        intro L nL
        refine ⟨.list [], .list [], .lst (sql (same_upd nL _ _ h.2)) .nil, .lst (sql upd_same) .nil, rfl, rfl, ?_⟩
        exact q _ ((sT.trans h.1).trans (same_upd nL))
end
end St

namespace St
open PySem PySem.Spec PyProof.Rows L2
abbrev s__law_guesser : Stmt := topS 44
abbrev N__law_guesser : List Str := ["_law_row", "_law_within", "_law_way", "_law_one", "_law_sorts"]
abbrev p__law_guesser : List Str := ["_law_row", "_law_within"]
theorem sc__law_guesser : FnScope N__law_guesser p__law_guesser (defScope s__law_guesser) := ⟨rfl, rfl, rfl, by decide +kernel, rfl, by decide +kernel, by decide +kernel⟩
section
variable {P : Program} {w : World} {K : PySem.W.Frag} {mg : Str → Option Value} {base : Heap} {f fT : Addr} {fd fdT : FuncData}
theorem ok__law_guesser (T : Nms mg) (D__law_taken : Df K mg "_law_taken" s__law_taken p__law_taken fT fdT) (D__law_guesser : Df K mg "_law_guesser" s__law_guesser p__law_guesser f fd) : ∀ n : Nat, FnOk P w K mg base CX0 (n + 1) f fd p__law_guesser (spGuesser K n)
  | 0 => fn_zero fun vs H Q E ⟨r, w, _, h, _⟩ => absurd h (Nat.not_lt_zero _)
  | n + 1 => by
    have G__law_guesser := ok__law_guesser T D__law_taken D__law_guesser n
    have G__law_taken : FnOk P w K mg base CX0 1 fT fdT p__law_taken (spTaken K) := ok__law_taken D__law_taken.F T
    refine D__law_guesser.F.ok sc__law_guesser (fun vs H Q E h => ?_) (fun cdv A outer s H vs Q E hr h => ?_)
    · obtain ⟨r, m, rfl, _⟩ := h
      rfl
    obtain ⟨r, m, rfl, hm, hR, q⟩ := h
    refine ⟨_, (pss_cons (ps_set (i := 2) sc__law_guesser.nd rfl (Or.inl rfl) (pe_call G__law_taken (hr.mono (by first | decide | omega)) (by rfl) D__law_taken.m D__law_taken.F.kp D__law_taken.b .nil pass0 (pa_cons (pv 0) (pa_cons (pe_ix ix_list (pe_lst (pa_cons pe_int (pa_cons pe_int pa_nil))) (pe_callTy call_int1 (by rfl) T.n_int (by decide +kernel) (pa_cons (pe_cmpR op_gt (pv 1) pe_int (nomark _)) pa_nil)) (fun _ _ => rfl)) pa_nil))))
  (pss_cons (ps_if (pt_cmpR op_gt (pv 2) pe_int (nomark _))
    (pss_cons (ps_set (i := 3) sc__law_guesser.nd rfl (Or.inl rfl) (pe_call G__law_guesser (hr.mono (by first | decide | omega)) (by rfl) D__law_guesser.m D__law_guesser.F.kp D__law_guesser.b .nil pass0 (pa_cons (pv 0) (pa_cons (pe_op op_sub (pv 1) pe_int) pa_nil))))
    (pss_one (ps_ret (pe_tup (pa_cons pe_str (pa_cons (pv 3) (pa_cons (pe_call G__law_guesser (hr.mono (by first | decide | omega)) (by rfl) D__law_guesser.m D__law_guesser.F.kp D__law_guesser.b .nil pass0 (pa_cons (pv 0) (pa_cons (pe_op op_sub (pv 1) pe_int) pa_nil))) pa_nil)))))))
    (pss_nil))
  (pss_cons (ps_set (i := 4) sc__law_guesser.nd rfl (Or.inl rfl) (pe_lst (pa_cons (pe_tup (pa_cons pe_str pa_nil)) (pa_cons (pe_tup (pa_cons pe_str (pa_cons (pe_op op_add pe_int (pe_call G__law_taken (hr.mono (by first | decide | omega)) (by rfl) D__law_taken.m D__law_taken.F.kp D__law_taken.b .nil pass0 (pa_cons (pv 0) (pa_cons pe_int pa_nil)))) pa_nil))) (pa_cons (pe_tup (pa_cons pe_str (pa_cons (pe_op op_add pe_int (pe_call G__law_taken (hr.mono (by first | decide | omega)) (by rfl) D__law_taken.m D__law_taken.F.kp D__law_taken.b .nil pass0 (pa_cons (pv 0) (pa_cons pe_int pa_nil)))) pa_nil))) pa_nil)))))
  (pss_cons (ps_set (i := 4) sc__law_guesser.nd rfl (Or.inl rfl) (pe_op op_cat (pv 4) (pe_lst (pa_cons (pe_tup (pa_cons pe_str (pa_cons (pe_op op_add pe_int (pe_call G__law_taken (hr.mono (by first | decide | omega)) (by rfl) D__law_taken.m D__law_taken.F.kp D__law_taken.b .nil pass0 (pa_cons (pv 0) (pa_cons pe_int pa_nil)))) pa_nil))) (pa_cons (pe_tup (pa_cons pe_str (pa_cons pe_int pa_nil))) (pa_cons (pe_tup (pa_cons pe_str (pa_cons pe_int pa_nil))) pa_nil))))))
  (pss_one (ps_ret (pe_ix ix_list (pv 4) (pv 2) (fun _ _ => rfl)))))))), ?_⟩
    -- way = taken(row, [6, 8][int(within > 0)])
    and_intros
    intro l nl
    and_intros
    refine Or.inr ⟨_, rfl, ?_⟩
    have hl : SqL K (upd H l (.lst [.int 6, .int 8])) l [.int 6, .int 8] := sql upd_same
    have hix : atI [V.int 6, V.int 8] (if decide ((0 : Int) < (m : Int)) = true then 1 else 0) = some (.int (if 0 < m then 8 else 6)) := by
      by_cases z : 0 < m
      · rw [decide_eq_true (show (0 : Int) < (m : Int) by omega), if_pos rfl, if_pos z]; rfl
      · rw [decide_eq_false (show ¬ (0 : Int) < (m : Int) by omega), if_neg Bool.false_ne_true, if_neg z]; rfl
    refine ⟨_, _, _, _, rfl, rfl, hl, hix, ?_⟩
    refine ⟨r, _, rfl, hR.same (by ac_rfl), by split <;> omega, fun way H1 w0 w1 s1 hR1 => ?_⟩
    and_intros
    refine ite2 (fun c => ?_) (fun c => ?_)
    · have c' : (5 : Int) < way := of_decide_eq_true c
      obtain ⟨k, rfl⟩ : ∃ k, m = k + 1 := by
        refine ⟨m - 1, ?_⟩
        split at w1 <;> omega
      have ek : ([V.ref r, V.int (((k + 1 : Nat) : Int) - 1)] : List V) = [V.ref r, V.int (k : Int)] := congrArg (fun z : Int => [V.ref r, V.int z]) (by omega)
      and_intros
      refine ⟨r, k, ek, by omega, hR1, fun g1 v1 H2 s2 hR2 h1 g1' => ?_⟩
      and_intros
      refine ⟨r, k, ek, by omega, hR2, fun g2 v2 H3 s3 hR3 h2 g2' => ?_⟩
      and_intros
      intro p np
      refine q (.both g1 g2) _ _ (by ac_rfl) (hR3.same (by ac_rfl)) ⟨p, v1, v2, rfl, sqt upd_same, (h1.sameX s3 hR2.at_).same (by ac_rfl), h2.same (by ac_rfl)⟩ ?_
      show (good k g1 && good k g2) = true
      rw [g1', g2']
      rfl
    · have c' : ¬ (5 : Int) < way := of_decide_eq_false (Bool.eq_false_iff.mpr c)
      -- sorts = [("none",), ("next", 1 + ..), ("stride", 1 + ..)]
      and_intros
      intro p1 np1
      and_intros
      refine ⟨r, _, rfl, hR1.same (by ac_rfl), by decide, fun x2 H2 a2 b2 s2 hR2 => ?_⟩
      and_intros
      intro p2 np2
      and_intros
      refine ⟨r, _, rfl, hR2.same (by ac_rfl), by decide, fun x3 H3 a3 b3 s3 hR3 => ?_⟩
      and_intros
      intro p3 np3
      and_intros
      intro l1 nl1
      and_intros
      refine ⟨r, _, rfl, hR3.same (by ac_rfl), by decide, fun x4 H4 a4 b4 s4 hR4 => ?_⟩
      and_intros
      intro p4 np4
      and_intros
      intro p5 np5
      and_intros
      intro p6 np6
      and_intros
      intro l2 nl2
      have l1r : l1 ≠ r := (hR3.same (same_upd np3)).nr nl1
      have p1r : p1 ≠ r := hR1.nr np1
      have p2r : p2 ≠ r := hR2.nr np2
      have p3r : p3 ≠ r := hR3.nr np3
      refine ⟨_, _, _, _, rfl, rfl, (by infer_instance), (by infer_instance), (by exact (show 3 + 3 ≤ sizeLine by decide)), ?_⟩
      intro l3 nl3
      and_intros
      have w6 : way = 0 ∨ way = 1 ∨ way = 2 ∨ way = 3 ∨ way = 4 ∨ way = 5 := by omega
      rcases w6 with rfl | rfl | rfl | rfl | rfl | rfl
      · refine ⟨_, _, _, _, rfl, rfl, (by infer_instance), rfl, ?_⟩
        exact q (.leaf "none" []) _ _ (by ac_rfl) (hR4.same (by ac_rfl)) ⟨p1, rfl, (by infer_instance)⟩ (good_none m)
      · refine ⟨_, _, _, _, rfl, rfl, (by infer_instance), rfl, ?_⟩
        exact q (.leaf "next" [1 + x2]) _ _ (by ac_rfl) (hR4.same (by ac_rfl)) ⟨p2, rfl, (by infer_instance)⟩ (good_next (by omega) (by omega))
      · refine ⟨_, _, _, _, rfl, rfl, (by infer_instance), rfl, ?_⟩
        exact q (.leaf "stride" [1 + x3]) _ _ (by ac_rfl) (hR4.same (by ac_rfl)) ⟨p3, rfl, (by infer_instance)⟩ (good_stride (by omega) (by omega))
      · refine ⟨_, _, _, _, rfl, rfl, (by infer_instance), rfl, ?_⟩
        exact q (.leaf "pairs" [1 + x4]) _ _ (by ac_rfl) (hR4.same (by ac_rfl)) ⟨p4, rfl, (by infer_instance)⟩ (good_pairs (by omega) (by omega))
      · refine ⟨_, _, _, _, rfl, rfl, (by infer_instance), rfl, ?_⟩
        exact q (.leaf "stride" [1]) _ _ (by ac_rfl) (hR4.same (by ac_rfl)) ⟨p5, rfl, (by infer_instance)⟩ (good_stride (by omega) (by omega))
      · refine ⟨_, _, _, _, rfl, rfl, (by infer_instance), rfl, ?_⟩
        exact q (.leaf "next" [1]) _ _ (by ac_rfl) (hR4.same (by ac_rfl)) ⟨p6, rfl, (by infer_instance)⟩ (good_next (by omega) (by omega))
end
end St

namespace St
open PySem PySem.Spec PyProof.Rows L2
abbrev s__law_setting : Stmt := topS 45
abbrev N__law_setting : List Str := ["_law_row", "_law_most", "_law_memory", "_law_room", "_law_k"]
abbrev p__law_setting : List Str := ["_law_row", "_law_most"]
theorem sc__law_setting : FnScope N__law_setting p__law_setting (defScope s__law_setting) := ⟨rfl, rfl, rfl, by decide +kernel, rfl, by decide +kernel, by decide +kernel⟩
section
variable {P : Program} {w : World} {K : PySem.W.Frag} {mg : Str → Option Value} {base : Heap} {f fT fP : Addr} {fd fdT fdP : FuncData}
def spSetting (K : PySem.W.Frag) : Sp := fun vs H Q _ => ∃ (r : Addr) (m : Int), vs = [.ref r, .int m] ∧ Row K H r ∧ 1 ≤ m ∧ m ≤ 32 ∧
  ∀ (a : Addr) (s : Stg) H', SameX r H H' → Row K H' r → IsSet K H' a s → s.Good → ((s.mem.length : Nat) : Int) ≤ m → Q (.ref a) H'
theorem ok__law_setting (T : Nms mg) (D__law_taken : Df K mg "_law_taken" s__law_taken p__law_taken fT fdT) (F : Fun K "_law_setting" "_law_setting" s__law_setting f fd) : FnOk P w K mg base CX0 2 f fd p__law_setting (spSetting K) := by
  have G__law_taken : FnOk P w K mg base CX0 1 fT fdT p__law_taken (spTaken K) := ok__law_taken D__law_taken.F T
  refine F.ok sc__law_setting (fun vs H Q E h => ?_) (fun cdv A outer s H vs Q E hr h => ?_)
  · obtain ⟨r, m, rfl, _⟩ := h
    rfl
  obtain ⟨r, m, rfl, hR, hm, hm2, q⟩ := h
  refine ⟨_, (pss_cons (ps_set (i := 2) sc__law_setting.nd rfl (Or.inl rfl) (pe_callTy call_tuple_of (by rfl) T.n_tuple (by decide +kernel) (pa_cons (pe_lc (own := [("_law_k", 4)]) (g := gName 4) rfl sc__law_setting.nd (pi_range1 rfl T.n_range (pa_cons (pe_op op_add pe_int (pe_call G__law_taken (hr.mono (by first | decide | omega)) (by rfl) D__law_taken.m D__law_taken.F.kp D__law_taken.b .nil pass0 (pa_cons (pv 0) (pa_cons (pv 1) pa_nil)))) pa_nil)) (blkOk_by (own := [("_law_k", 4)]) (N := N__law_setting) (sc := defScope s__law_setting) (by decide +kernel)) (fun _ _ _ _ _ => pg_name (i := 4) sc__law_setting.nd rfl (Or.inl rfl)) (fun _ _ _ _ _ => pts_nil) (fun _ _ _ _ _ => (pe_call G__law_taken (hr.mono (by first | decide | omega)) (by rfl) D__law_taken.m D__law_taken.F.kp D__law_taken.b .nil pass0 (pa_cons (pv 0) (pa_cons pe_int pa_nil))))) pa_nil)))
  (pss_cons (ps_set (i := 3) sc__law_setting.nd rfl (Or.inl rfl) (pe_op op_add pe_int (pe_call G__law_taken (hr.mono (by first | decide | omega)) (by rfl) D__law_taken.m D__law_taken.F.kp D__law_taken.b .nil pass0 (pa_cons (pv 0) (pa_cons (pe_ix ix_list (pe_lst (pa_cons pe_int (pa_cons pe_int pa_nil))) (pe_call G__law_taken (hr.mono (by first | decide | omega)) (by rfl) D__law_taken.m D__law_taken.F.kp D__law_taken.b .nil pass0 (pa_cons (pv 0) (pa_cons pe_int pa_nil))) (fun _ _ => rfl)) pa_nil)))))
  (pss_one (ps_ret (pe_tup (pa_cons (pv 2) (pa_cons (pv 3) (pa_cons (pe_ix ix_list (pe_lst (pa_cons pe_int (pa_cons pe_int (pa_cons (pe_call G__law_taken (hr.mono (by first | decide | omega)) (by rfl) D__law_taken.m D__law_taken.F.kp D__law_taken.b .nil pass0 (pa_cons (pv 0) (pa_cons pe_int pa_nil))) pa_nil)))) (pe_call G__law_taken (hr.mono (by first | decide | omega)) (by rfl) D__law_taken.m D__law_taken.F.kp D__law_taken.b .nil pass0 (pa_cons (pv 0) (pa_cons pe_int pa_nil))) (fun _ _ => rfl)) (pa_cons (pe_op op_add pe_int (pe_call G__law_taken (hr.mono (by first | decide | omega)) (by rfl) D__law_taken.m D__law_taken.F.kp D__law_taken.b .nil pass0 (pa_cons (pv 0) (pa_cons pe_int pa_nil)))) pa_nil))))))))), ?_⟩
  and_intros
  refine ⟨r, m, rfl, hR, by omega, fun n H1 n0 n1 s1 hR1 => ?_⟩
  refine ⟨_, _, rfl, rfl, _, rfl, by omega, by omega, fun D nD => ?_⟩
  have hDr : D ≠ r := hR1.nr nD
  refine lc_range (lo := 0) (n := (1 + n).toNat) (fun i H' => ∃ ns : List Int, H' D = some (.lst (ns.map V.int)) ∧ ns.length = i ∧ (∀ x ∈ ns, 0 ≤ x ∧ x ≤ 99) ∧ SameX r H1 H' ∧ Row K H' r) ⟨[], upd_same, rfl, fun _ h => (nomatch h), SameX.of (same_upd nD), hR1.same (same_upd nD)⟩ (fun i H' hi h => ?_) (fun H' h => ?_)
  · obtain ⟨ns, e, l, b, sx, hr⟩ := h
    refine ⟨rfl, ?_⟩
    and_intros
    refine ⟨r, 100, rfl, hr, by decide, fun x H2 x0 x1 s2 hR2 => ?_⟩
    refine ⟨_, s2 _ _ hDr e, by rw [List.length_map]; exact szl (by omega), ns ++ [x], by rw [upd_same, List.map_append]; rfl, by rw [List.length_append, l]; rfl, fun y hy => ?_, samex_mut (sx.trans s2) nD, hR2.upd ⟨_, s2 _ _ hDr e⟩ hDr⟩
    rcases List.mem_append.mp hy with hy | hy
    · exact b y hy
    · rw [List.mem_singleton.mp hy]
      omega
  · obtain ⟨ns, e, l, b, sx, hr⟩ := h
    refine ⟨_, _, rfl, .inl ⟨sql e, fun t nt => ?_⟩⟩
    have et : SqT K (upd H' t (.tup (ns.map V.int))) t (ns.map V.int) := sqt upd_same
    have sx2 := s1.trans (sx.trans (SameX.of (same_upd (o := .tup (ns.map V.int)) nt)))
    have hr2 := hr.same (same_upd (o := .tup (ns.map V.int)) nt)
    generalize upd H' t (.tup (ns.map V.int)) = H2 at et sx2 hr2 ⊢
    clear e sx hr
    and_intros
    intro l1 nl1
    have e3 : (upd H2 l1 (.lst [.int 3, .int 8])) l1 = some (.lst [.int 3, .int 8]) := upd_same
    have hr3 := hr2.same (same_upd (o := .lst [.int 3, .int 8]) nl1)
    have sx3 := sx2.trans (SameX.of (same_upd (o := .lst [.int 3, .int 8]) nl1))
    have et3 := same_t (same_upd (o := .lst [.int 3, .int 8]) nl1) et
    have n3r := hr2.nr nl1
    generalize upd H2 l1 (.lst [.int 3, .int 8]) = H3 at e3 hr3 sx3 et3 ⊢
    and_intros
    refine ⟨r, 2, rfl, hr3, by decide, fun x H4 x0 x1 s4 hR4 => ?_⟩
    obtain ⟨rm, rm1, rm2, hx⟩ : ∃ rm : Int, 0 < rm ∧ rm ≤ 8 ∧ atI [V.int 3, V.int 8] x = some (.int rm) := by
      have : x = 0 ∨ x = 1 := by omega
      rcases this with rfl | rfl
      · exact ⟨3, by decide, by decide, rfl⟩
      · exact ⟨8, by decide, by decide, rfl⟩
    refine ⟨_, _, _, _, rfl, rfl, sql (s4 _ _ n3r e3), hx, ?_⟩
    refine ⟨r, rm, rfl, hR4, rm1, fun y H5 y0 y1 s5 hR5 => ?_⟩
    have sx5 := (sx3.trans s4).trans s5
    have et5 := ((Imm.sameX s4 hr3.at_).trans (Imm.sameX s5 hR4.at_)).t et3
    and_intros
    refine ⟨r, 5, rfl, hR5, by decide, fun z H6 z0 z1 s6 hR6 => ?_⟩
    have sx6 := sx5.trans s6
    have et6 := (Imm.sameX s6 hR5.at_).t et5
    and_intros
    intro l2 nl2
    have e7 : (upd H6 l2 (.lst [.int 0, .int 1, .int z])) l2 = some (.lst [.int 0, .int 1, .int z]) := upd_same
    have hr7 := hR6.same (same_upd (o := .lst [.int 0, .int 1, .int z]) nl2)
    have sx7 := sx6.trans (SameX.of (same_upd (o := .lst [.int 0, .int 1, .int z]) nl2))
    have et7 := same_t (same_upd (o := .lst [.int 0, .int 1, .int z]) nl2) et6
    have n7r := hR6.nr nl2
    generalize upd H6 l2 (.lst [.int 0, .int 1, .int z]) = H7 at e7 hr7 sx7 et7 ⊢
    and_intros
    refine ⟨r, 3, rfl, hr7, by decide, fun u H8 u0 u1 s8 hR8 => ?_⟩
    obtain ⟨lt, lt1, lt2, hu⟩ : ∃ lt : Int, 0 ≤ lt ∧ lt ≤ 4 ∧ atI [V.int 0, V.int 1, V.int z] u = some (.int lt) := by
      have : u = 0 ∨ u = 1 ∨ u = 2 := by omega
      rcases this with rfl | rfl | rfl
      · exact ⟨0, by decide, by decide, rfl⟩
      · exact ⟨1, by decide, by decide, rfl⟩
      · exact ⟨z, by omega, by omega, rfl⟩
    refine ⟨_, _, _, _, rfl, rfl, sql (s8 _ _ n7r e7), hu, ?_⟩
    and_intros
    refine ⟨r, 4, rfl, hR8, by decide, fun ms H9 ms0 ms1 s9 hR9 => ?_⟩
    have sx9 := (sx7.trans s8).trans s9
    have et9 := ((Imm.sameX s8 hr7.at_).trans (Imm.sameX s9 hR8.at_)).t et7
    and_intros
    intro p np
    have ln : ns.length = (1 + n).toNat := l
    exact q p ⟨ns, 1 + y, lt, 1 + ms⟩ _ (sx9.trans (SameX.of (same_upd np))) (hR9.same (same_upd np)) ⟨t, sqt upd_same, same_t (same_upd np) et9⟩
      ⟨by show 1 ≤ ns.length; omega, by show ns.length ≤ 32; omega, b, by show (1 : Int) ≤ 1 + y; omega, by show 1 + y ≤ 8; omega, lt1, lt2, by show (1 : Int) ≤ 1 + ms; omega, by show 1 + ms ≤ 4; omega⟩ (by show ((ns.length : Nat) : Int) ≤ m; omega)
end
end St

namespace St
open PySem PySem.Spec PyProof.Rows L2
abbrev s_law : Stmt := topS 55
abbrev N_law : List Str := ["_law_script", "_law_row", "_law_setting_here", "_law_places", "_law_length", "_law_one", "_law_other", "_law_weights_here", "_law_rows_here", "_law_again", "_law_found"]
abbrev p_law : List Str := ["_law_script"]
theorem sc_law : FnScope N_law p_law (defScope s_law) := ⟨rfl, rfl, rfl, by decide +kernel, rfl, by decide +kernel, by decide +kernel⟩
def spLaw (K : PySem.W.Frag) : Sp := fun vs H Q _ => ∃ (a : Addr) (ns : List Int), vs = [.ref a] ∧ Sc K H a (ns.map V.int) ∧ ∀ H', Q (.bl true) H'
theorem dp_pr2 {K : PySem.W.Frag} {H : Hp} {t ra : Addr} {p : Int × List Int} (h1 : SqT K H t [.int p.1, .ref ra]) (h2 : H ra = some (.lst (p.2.map V.int))) : Dp K H (.ref t) (.tuple [.int p.1, .list (p.2.map PyData.int)]) :=
  .tup h1 (.cons (.int _) (.cons (.lst (sql h2) (dpA_ints _)) .nil))
theorem dep_pr (p : Int × List Int) (h : p.2.length ≤ 100000) : dep 3 (.tuple [.int p.1, .list (p.2.map PyData.int)]) := by
  refine ⟨by show 2 ≤ 100000; decide, fun d hd => ?_⟩
  simp only [List.mem_cons, List.not_mem_nil, or_false] at hd
  rcases hd with rfl | rfl
  · trivial
  · refine ⟨by rw [List.length_map]; exact h, fun d hd => ?_⟩
    obtain ⟨x, _, rfl⟩ := List.mem_map.mp hd
    trivial
theorem worst_len (s : Stg) (g1 g2 : G) (w : Wts) {n k : Nat} (n1 : 1 ≤ n) : (worstP s g1 g2 w n k).2.length ≤ k := by
  have key : ∀ (R : List (List Int)) (o : Option (Int × List Int)), (∀ r ∈ R, r.length = k) → (∀ p, o = some p → p.2.length = k) → ∀ p, R.foldl (bestL (moreL (cfgOf s g1) (cfgOf s g2) w)) o = some p → p.2.length = k := fun R => by
    induction R with
    | nil => intro o _ h; exact h
    | cons r R ih =>
      intro o hR ho
      refine ih _ (fun q hq => hR q (List.mem_cons_of_mem _ hq)) fun p hp => ?_
      have hr := hR r List.mem_cons_self
      cases o with
      | none => cases hp; exact hr
      | some o =>
        have hp : (if o.1 < _ then some (_, r) else some o) = some p := hp
        split at hp
        · cases hp; exact hr
        · exact ho p hp
  unfold worstP
  cases h : (rowsP n k).foldl (bestL (moreL (cfgOf s g1) (cfgOf s g2) w)) none with
  | none => exact Nat.zero_le _
  | some p => exact Nat.le_of_eq (key _ none (fun r hr => rows_len hr) (fun p hp => nomatch hp) p h)
section
variable {P : Program} {w : World} {K : PySem.W.Frag} {mg : Str → Option Value} {base : Heap} {f C f1 g1 g2 g3 g4 g5 g6 g7 g8 g9 g10 g11 g12 g13 : Addr} {fd fd1 gd1 gd2 gd3 gd4 gd5 gd6 gd7 gd8 gd9 gd10 gd11 gd12 gd13 : FuncData}
theorem ok_law (O : WorstCo K w mg C) (D_worst : Df K mg "worst" s_worst p_worst f1 fd1)
    (D__law_taken : Df K mg "_law_taken" s__law_taken p__law_taken g1 gd1) (D__law_alike : Df K mg "_law_alike" s__law_alike p__law_alike g2 gd2) (D__law_guesser : Df K mg "_law_guesser" s__law_guesser p__law_guesser g3 gd3)
    (D__law_setting : Df K mg "_law_setting" s__law_setting p__law_setting g4 gd4)
    (D__law_guessed : Df K mg "_law_guessed" s__law_guessed p__law_guessed g7 gd7) (D__law_laid : Df K mg "_law_laid" s__law_laid p__law_laid g8 gd8) (D__law_asked : Df K mg "_law_asked" s__law_asked p__law_asked g9 gd9) (D__law_run : Df K mg "_law_run" s__law_run p__law_run g10 gd10)
    (D__law_counts : Df K mg "_law_counts" s__law_counts p__law_counts g11 gd11) (D__law_cost : Df K mg "_law_cost" s__law_cost p__law_cost g12 gd12) (D__law_weights : Df K mg "_law_weights" s__law_weights p__law_weights g13 gd13)
    (D__law_rows : Df K mg "_law_rows" s__law_rows p__law_rows g5 gd5) (D__law_worst : Df K mg "_law_worst" s__law_worst p__law_worst g6 gd6)
    (F : Fun K "law" "law" s_law f fd) : FnOk P w K mg base CX0 11 f fd p_law (spLaw K) := by
  have T := O.T
  have G_worst : FnOk P w K mg base CX0 9 f1 fd1 p_worst (spWorst K) := ok_worst O D_worst.F
  have G__law_taken : FnOk P w K mg base CX0 1 g1 gd1 p__law_taken (spTaken K) := ok__law_taken D__law_taken.F T
  have G__law_guesser : FnOk P w K mg base CX0 5 g3 gd3 p__law_guesser (spGuesser K 4) := ok__law_guesser T D__law_taken D__law_guesser 4
  have G__law_setting : FnOk P w K mg base CX0 2 g4 gd4 p__law_setting (spSetting K) := ok__law_setting T D__law_taken D__law_setting.F
  have G__law_weights : FnOk P w K mg base CX0 2 g13 gd13 p__law_weights (spLW K) := ok__law_weights T D__law_taken D__law_weights.F
  have G__law_rows : FnOk P w K mg base CX0 1 g5 gd5 p__law_rows spRows := ok__law_rows T D__law_rows.F
  have G__law_worst : FnOk P w K mg base CX0 7 g6 gd6 p__law_worst (spLWo K) := ok__law_worst D__law_laid D__law_asked D__law_guessed D__law_run D__law_counts D__law_cost T D__law_worst.F
  have G__law_alike : FnOk P w K mg base CX0 3 g2 gd2 p__law_alike (spAlike K 3) := ok__law_alike T D__law_alike 3
  refine F.ok sc_law (fun vs H Q E h => ?_) (fun cdv A outer s H vs Q E hr h => ?_)
  · obtain ⟨a, ns, rfl, _⟩ := h
    rfl
  obtain ⟨a, ns, rfl, hS, q⟩ := h
  refine ⟨_, (pss_cons (ps_set (i := 1) sc_law.nd rfl (Or.inl rfl) (pe_lst (pa_cons (pv 0) (pa_cons pe_int (pa_cons pe_int pa_nil)))))
  (pss_cons (ps_set (i := 2) sc_law.nd rfl (Or.inl rfl) (pe_call G__law_setting (hr.mono (by first | decide | omega)) (by rfl) D__law_setting.m D__law_setting.F.kp D__law_setting.b .nil pass0 (pa_cons (pv 1) (pa_cons (pe_ix ix_list (pe_lst (pa_cons pe_int (pa_cons pe_int (pa_cons pe_int pa_nil)))) (pe_call G__law_taken (hr.mono (by first | decide | omega)) (by rfl) D__law_taken.m D__law_taken.F.kp D__law_taken.b .nil pass0 (pa_cons (pv 1) (pa_cons pe_int pa_nil))) (fun _ _ => rfl)) pa_nil))))
  (pss_cons (ps_set (i := 3) sc_law.nd rfl (Or.inl rfl) (pe_op op_add pe_int (pe_call G__law_taken (hr.mono (by first | decide | omega)) (by rfl) D__law_taken.m D__law_taken.F.kp D__law_taken.b .nil pass0 (pa_cons (pv 1) (pa_cons (pe_callB (call_min2 rfl) (by rfl) T.n_min (by decide +kernel) (pa_cons pe_int (pa_cons (pe_callB call_len_seq (by rfl) T.n_len (by decide +kernel) (pa_cons (pe_ix ix_tup (pv 2) pe_int (fun _ _ => rfl)) pa_nil)) pa_nil))) pa_nil)))))
  (pss_cons (ps_set (i := 4) sc_law.nd rfl (Or.inl rfl) (pe_call G__law_taken (hr.mono (by first | decide | omega)) (by rfl) D__law_taken.m D__law_taken.F.kp D__law_taken.b .nil pass0 (pa_cons (pv 1) (pa_cons (pe_dget (hu_of hr) (pe_disp (pps_cons pe_int pe_int (pps_cons pe_int pe_int (pps_cons pe_int pe_int (pps_cons pe_int pe_int pps_nil)))) (by rfl) (by rfl) (fun z => by cases z) (by decide)) (pv 3) (fun _ _ => rfl)) pa_nil))))
  (pss_cons (ps_set (i := 5) sc_law.nd rfl (Or.inl rfl) (pe_call G__law_guesser (hr.mono (by first | decide | omega)) (by rfl) D__law_guesser.m D__law_guesser.F.kp D__law_guesser.b .nil pass0 (pa_cons (pv 1) (pa_cons pe_int pa_nil))))
  (pss_cons (ps_set (i := 6) sc_law.nd rfl (Or.inl rfl) (pe_ix ix_list (pe_lst (pa_cons (pe_tup (pa_cons pe_str pa_nil)) (pa_cons (pe_call G__law_guesser (hr.mono (by first | decide | omega)) (by rfl) D__law_guesser.m D__law_guesser.F.kp D__law_guesser.b .nil pass0 (pa_cons (pv 1) (pa_cons pe_int pa_nil))) (pa_cons (pv 5) pa_nil)))) (pe_call G__law_taken (hr.mono (by first | decide | omega)) (by rfl) D__law_taken.m D__law_taken.F.kp D__law_taken.b .nil pass0 (pa_cons (pv 1) (pa_cons pe_int pa_nil))) (fun _ _ => rfl)))
  (pss_cons (ps_set (i := 7) sc_law.nd rfl (Or.inl rfl) (pe_call G__law_weights (hr.mono (by first | decide | omega)) (by rfl) D__law_weights.m D__law_weights.F.kp D__law_weights.b .nil pass0 (pa_cons (pv 1) pa_nil)))
  (pss_cons (ps_set (i := 8) sc_law.nd rfl (Or.inl rfl) (pe_call G__law_rows (hr.mono (by first | decide | omega)) (by rfl) D__law_rows.m D__law_rows.F.kp D__law_rows.b .nil pass0 (pa_cons (pv 3) (pa_cons (pv 4) pa_nil))))
  (pss_cons (ps_for PassesOwn.never rfl (pi_range1 rfl T.n_range (pa_cons pe_int pa_nil)) (pg_name (i := 9) sc_law.nd rfl (Or.inl rfl))
    (pss_cons (ps_set (i := 10) sc_law.nd rfl (Or.inl rfl) (pe_call G_worst (hr.mono (by first | decide | omega)) (by rfl) D_worst.m D_worst.F.kp D_worst.b .nil pass0 (pa_cons (pv 2) (pa_cons (pv 5) (pa_cons (pv 6) (pa_cons (pv 7) (pa_cons (pv 3) (pa_cons (pv 4) pa_nil))))))))
    (pss_cons (ps_if (pt_not (pt_val (pe_call G__law_alike (hr.mono (by first | decide | omega)) (by rfl) D__law_alike.m D__law_alike.F.kp D__law_alike.b .nil pass0 (pa_cons (pv 10) (pa_cons (pe_call G__law_worst (hr.mono (by first | decide | omega)) (by rfl) D__law_worst.m D__law_worst.F.kp D__law_worst.b .nil pass0 (pa_cons (pv 2) (pa_cons (pv 5) (pa_cons (pv 6) (pa_cons (pv 7) (pa_cons (pv 8) pa_nil)))))) pa_nil)))))
      (pss_one (ps_ret pe_bl))
      (pss_nil))
    (pss_one (ps_expr (pe_bm PySem.F.plainAttrs_list PySem.F.slot_list_append PySem.F.type_list_append mt_append (pe_ix ix_tup (pv 10) pe_int (fun _ _ => rfl)) (pa_cons pe_int pa_nil)))))))
  (pss_cons (ps_set (i := 10) sc_law.nd rfl (Or.inl rfl) (pe_call G_worst (hr.mono (by first | decide | omega)) (by rfl) D_worst.m D_worst.F.kp D_worst.b .nil pass0 (pa_cons (pv 2) (pa_cons (pv 6) (pa_cons (pv 5) (pa_cons (pv 7) (pa_cons (pv 3) (pa_cons (pv 4) pa_nil))))))))
  (pss_one (ps_ret (pe_call G__law_alike (hr.mono (by first | decide | omega)) (by rfl) D__law_alike.m D__law_alike.F.kp D__law_alike.b .nil pass0 (pa_cons (pv 10) (pa_cons (pe_call G__law_worst (hr.mono (by first | decide | omega)) (by rfl) D__law_worst.m D__law_worst.F.kp D__law_worst.b .nil pass0 (pa_cons (pv 2) (pa_cons (pv 6) (pa_cons (pv 5) (pa_cons (pv 7) (pa_cons (pv 8) pa_nil)))))) pa_nil))))))))))))))), ?_⟩
  and_intros
  intro r nr
  have hR : Row K (upd H r (.lst [.ref a, .int 0, .int 0])) r := ⟨a, ns, 0, 0, upd_same, hS.imm (Imm.same (same_upd nr)), by omega⟩
  generalize upd H r (.lst [.ref a, .int 0, .int 0]) = H0 at hR ⊢
  and_intros
  intro l1 n1
  have hR1 := hR.same (same_upd (o := .lst [.int 6, .int 6, .int 32]) n1)
  have e1 : (upd H0 l1 (.lst [.int 6, .int 6, .int 32])) l1 = some (.lst [.int 6, .int 6, .int 32]) := upd_same
  have n1r := hR.nr n1
  generalize upd H0 l1 (.lst [.int 6, .int 6, .int 32]) = H1 at hR1 e1 ⊢
  and_intros
  refine ⟨r, 3, rfl, hR1, by decide, fun x H2 x0 x1 s2 hR2 => ?_⟩
  have e2 := s2 _ _ n1r e1
  obtain ⟨m, hm1, hm2, hx⟩ : ∃ m : Int, 1 ≤ m ∧ m ≤ 32 ∧ atI [V.int 6, V.int 6, V.int 32] x = some (.int m) := by
    have : x = 0 ∨ x = 1 ∨ x = 2 := by omega
    rcases this with rfl | rfl | rfl
    · exact ⟨6, by decide, by decide, rfl⟩
    · exact ⟨6, by decide, by decide, rfl⟩
    · exact ⟨32, by decide, by decide, rfl⟩
  refine ⟨_, _, _, _, rfl, rfl, sql e2, hx, ?_⟩
  refine ⟨r, m, rfl, hR2, hm1, hm2, fun sa st H3 s3 hR3 hS gS lS => ?_⟩
  clear e1 e2 hx hR1 hR2 s2 s3 hR
  obtain ⟨mm, h1, h2⟩ := id hS
  have gm1 := gS.m1
  refine ⟨_, rfl, _, rfl, _, _, _, _, rfl, rfl, h1, atI_nat (j := 0) rfl, _, _, rfl, .inr h2, ?_⟩
  have gm2 := gS.m2
  refine ⟨_, _, rfl, ?_⟩
  refine ⟨r, _, rfl, hR3, by rw [List.length_map]; split <;> omega, fun y H4 y0 y1 s4 hR4 => ?_⟩
  rw [List.length_map] at y1
  have hS4 := hS.imm (Imm.sameX s4 hR3.at_)
  obtain ⟨n, hn⟩ : ∃ n : Nat, 1 + y = ((n : Nat) : Int) := ⟨(1 + y).toNat, by omega⟩
  have n1 : 1 ≤ n := by omega
  have n4 : n ≤ 4 := by split at y1 <;> omega
  have nm : n ≤ st.mem.length := by split at y1 <;> omega
  clear h1 h2 hS s4 hR3
  refine ⟨_, _, rfl, rfl, ?_⟩
  dsimp only
  rw [hn]
  refine ⟨_, rfl, ?_⟩
  intro d nd
  refine ⟨upd_same, [(.inl 1, .int 8), (.inl 2, .int 8), (.inl 3, .int 7), (.inl 4, .int 6)], rfl, (by show 4 ≤ 15; decide), ?_⟩
  have sd : Same H4 (upd (upd H4 d (.dK [])) d (.dK (mergeK [] [(.inl 1, .int 8), (.inl 2, .int 8), (.inl 3, .int 7), (.inl 4, .int 6)]))) := same_mut (same_upd nd) nd
  have hR5 := hR4.same sd
  have hS5 := hS4.imm (Imm.same sd)
  have ed : (upd (upd H4 d (.dK [])) d (.dK (mergeK [] [(.inl 1, .int 8), (.inl 2, .int 8), (.inl 3, .int 7), (.inl 4, .int 6)]))) d = some (.dK (mergeK [] [(.inl 1, .int 8), (.inl 2, .int 8), (.inl 3, .int 7), (.inl 4, .int 6)])) := upd_same
  generalize upd (upd H4 d (.dK [])) d (.dK (mergeK [] [(.inl 1, .int 8), (.inl 2, .int 8), (.inl 3, .int 7), (.inl 4, .int 6)])) = H5 at hR5 hS5 ed ⊢
  obtain ⟨lm, l1, l2, hlm⟩ : ∃ lm : Nat, 1 ≤ lm ∧ (∀ k, k < lm → k ≤ 7 ∧ n ^ k ≤ 1024) ∧ valV (mergeK [] [(.inl 1, .int 8), (.inl 2, .int 8), (.inl 3, .int 7), (.inl 4, .int 6)]) (.inl ((n : Nat) : Int)) = some (.int ((lm : Nat) : Int)) := by
    have : n = 1 ∨ n = 2 ∨ n = 3 ∨ n = 4 := by omega
    rcases this with rfl | rfl | rfl | rfl
    · refine ⟨8, by decide, fun k hk => ⟨by omega, by rw [Nat.one_pow]; decide⟩, rfl⟩
    · refine ⟨8, by decide, fun k hk => ⟨by omega, Nat.le_trans (Nat.pow_le_pow_right (by decide) (show k ≤ 7 by omega)) (by decide)⟩, rfl⟩
    · refine ⟨7, by decide, fun k hk => ⟨by omega, Nat.le_trans (Nat.pow_le_pow_right (by decide) (show k ≤ 6 by omega)) (by decide)⟩, rfl⟩
    · refine ⟨6, by decide, fun k hk => ⟨by omega, Nat.le_trans (Nat.pow_le_pow_right (by decide) (show k ≤ 5 by omega)) (by decide)⟩, rfl⟩
  refine ⟨_, rfl, d, _, rfl, by rw [← hlm]; exact DGet.k (k := .inl ((n : Nat) : Int)) ed, ?_⟩
  refine ⟨r, _, rfl, hR5, by omega, fun z H6 z0 z1 s6 hR6 => ?_⟩
  obtain ⟨k, rfl⟩ : ∃ k : Nat, z = ((k : Nat) : Int) := ⟨z.toNat, by omega⟩
  obtain ⟨k7, nk⟩ := l2 k (by omega)
  have hS6 := hS5.imm (Imm.sameX s6 hR5.at_)
  clear hS5 hS4 s6 ed hR5 hlm l2 sd hR4 nd
  refine ⟨_, rfl, ?_⟩
  refine ⟨r, 2, rfl, by omega, hR6, fun ga v1 H7 s7 hR7 hG1 gd1 => ?_⟩
  have hS7 := hS6.imm (Imm.sameX s7 hR6.at_)
  clear s7 hR6 hS6
  -- the other one
  refine ⟨sz_1, fun p0 np0 => ?_⟩
  have w0 := same_upd (o := .tup [.str "none"]) np0
  have hg0 : IsG K (upd H7 p0 (.tup [.str "none"])) (.leaf "none" []) (.ref p0) := ⟨p0, rfl, sqt upd_same⟩
  have hS8 := hS7.imm (Imm.same w0)
  have hG8 := hG1.same w0
  have hR8 := hR7.same w0
  generalize upd H7 p0 (.tup [.str "none"]) = H8 at w0 hg0 hS8 hG8 hR8 ⊢
  refine ⟨_, rfl, ?_⟩
  refine ⟨r, 2, rfl, by omega, hR8, fun gb v2 H9 s9 hR9 hG2 gd2 => ?_⟩
  have im9 := Imm.sameX s9 hR8.at_
  have hS9 := hS8.imm im9
  have hG9 := hG8.imm im9
  have hg9 := hg0.imm im9
  refine ⟨_, rfl, sz_3, fun lo nlo => ?_⟩
  have w1 := same_upd (o := .lst [.ref p0, v2, v1]) nlo
  have elo : (upd H9 lo (.lst [.ref p0, v2, v1])) lo = some (.lst [.ref p0, v2, v1]) := upd_same
  have nlor := hR9.nr nlo
  have hS10 := hS9.imm (Imm.same w1)
  have hG10 := hG9.same w1
  have hg10 := hg9.same w1
  have hG210 := hG2.same w1
  have hR10 := hR9.same w1
  generalize upd H9 lo (.lst [.ref p0, v2, v1]) = H10 at w1 elo hS10 hG10 hg10 hG210 hR10 ⊢
  refine ⟨_, rfl, ?_⟩
  refine ⟨r, 3, rfl, hR10, by decide, fun u H11 u0 u1 s11 hR11 => ?_⟩
  have im11 := Imm.sameX s11 hR10.at_
  have hS11 := hS10.imm im11
  have hG11 := hG10.imm im11
  obtain ⟨vo, go, ho, hGo, gdo⟩ : ∃ (vo : V) (go : G), atI [.ref p0, v2, v1] u = some vo ∧ IsG K H11 go vo ∧ good 2 go = true := by
    have : u = 0 ∨ u = 1 ∨ u = 2 := by omega
    rcases this with rfl | rfl | rfl
    · exact ⟨_, _, rfl, hg10.imm im11, good_none 2⟩
    · exact ⟨_, _, rfl, hG210.imm im11, gd2⟩
    · exact ⟨_, _, rfl, hG11, gd1⟩
  refine ⟨_, _, _, _, rfl, rfl, sql (s11 _ _ nlor elo), ho, ?_⟩
  clear hS10 hG10 hg10 hG210 hR10 hS9 hG9 hg9 hG2 hR9 hS8 hG8 hg0 hR8 hS7 hG1 hR7 im9 im11 w0 w1 s9 s11 elo ho
  refine ⟨_, rfl, ?_⟩
  refine ⟨r, rfl, hR11, fun wp wt H12 s12 hR12 hw gw => ?_⟩
  have im12 := Imm.sameX s12 hR11.at_
  have hS12 := hS11.imm im12
  have hG12 := hG11.imm im12
  have hGo12 := hGo.imm im12
  clear hS11 hG11 hGo im12 s12 hR11
  refine ⟨_, rfl, _, rfl, ?_⟩
  refine ⟨n, k, rfl, n1, n4, k7, nk, fun ra as H13 s13 era pra => ?_⟩
  have hS13 := hS12.imm (Imm.same s13)
  have hG13 := hG12.same s13
  have hGo13 := hGo12.same s13
  have hw13 : IsW K H13 wp wt := same_t s13 hw
  clear hS12 hG12 hGo12 hw hR12 s13
  -- one telling of worst, held against the law's own
  have lk : ∀ ga gb : G, (worstP st ga gb wt n k).2.length ≤ 100000 := fun ga gb => Nat.le_trans (worst_len st ga gb wt n1) (by omega)
  refine ⟨2, rfl, by decide, by decide, ?_⟩
  refine for_range (lo := 0) (n := ((2 : Int)).toNat) (fun i σ H' => ∃ y9 y10, σ = [some (.ref a), some (.ref r), some (.ref sa), some (.int ((n : Nat) : Int)), some (.int ((k : Nat) : Int)), some v1, some vo, some (.ref wp), some (.ref ra), y9, y10] ∧ Same H13 H')
    ⟨none, none, rfl, Same.refl _⟩ (fun i σ H' hi h => ?_) (fun σ H' h => ?_)
  · obtain ⟨y9, y10, rfl, s14⟩ := h
    refine ⟨_, rfl, _, rfl, _, rfl, _, rfl, _, rfl, _, rfl, ?_⟩
    refine ⟨sa, wp, v1, vo, st, ga, go, wt, n, k, rfl, hS13.imm (Imm.same s14), gS, hG13.same s14, gd1, hGo13.same s14, gdo, same_t s14 hw13, gw, n1, n4, nm, k7, nk, fun t rr H15 s15 nrr ht hrr => ?_⟩
    have s135 := s14.trans s15
    refine ⟨_, rfl, _, rfl, _, rfl, _, rfl, _, rfl, _, rfl, ?_⟩
    refine ⟨sa, wp, ra, v1, vo, st, ga, go, wt, n, k, as, rfl, hS13.imm (Imm.same s135), gS, hG13.same s135, good_up gd1, hGo13.same s135, good_up gdo, same_t s135 hw13, gw, n1, nm, k7, s135 _ _ era, pra.same s135, fun t2 rr2 H16 s16 ht2 hrr2 => ?_⟩
    refine ⟨_, _, _, rfl, dp_pr2 (same_t s16 ht) (s16 _ _ hrr), dp_pr2 ht2 hrr2, dep_pr _ (lk ga go), fun H17 s17 => ?_⟩
    refine ⟨_, rfl, iteB0 (b := !true) rfl ?_⟩
    have s157 := s16.trans s17
    have hrr7 := s157 _ _ hrr
    refine ⟨_, rfl, _, _, _, _, rfl, rfl, same_t s157 ht, atI_nat (j := 1) rfl, .inl ⟨rfl, _, sql hrr7⟩, _, _, _, rfl, rfl, hrr7, by rw [List.length_map]; exact szl (by have := worst_len st ga go wt n1 (k := k); omega), ?_⟩
    exact ⟨_, _, rfl, same_mut (s14.trans (s15.trans s157)) (freshS s14 nrr)⟩
  · obtain ⟨y9, y10, rfl, s14⟩ := h
    refine ⟨_, rfl, _, rfl, _, rfl, _, rfl, _, rfl, _, rfl, ?_⟩
    refine ⟨sa, wp, vo, v1, st, go, ga, wt, n, k, rfl, hS13.imm (Imm.same s14), gS, hGo13.same s14, gdo, hG13.same s14, gd1, same_t s14 hw13, gw, n1, n4, nm, k7, nk, fun t rr H15 s15 nrr ht hrr => ?_⟩
    have s135 := s14.trans s15
    refine ⟨_, rfl, _, rfl, _, rfl, _, rfl, _, rfl, _, rfl, ?_⟩
    refine ⟨sa, wp, ra, vo, v1, st, go, ga, wt, n, k, as, rfl, hS13.imm (Imm.same s135), gS, hGo13.same s135, good_up gdo, hG13.same s135, good_up gd1, same_t s135 hw13, gw, n1, nm, k7, s135 _ _ era, pra.same s135, fun t2 rr2 H16 s16 ht2 hrr2 => ?_⟩
    refine ⟨_, _, _, rfl, dp_pr2 (same_t s16 ht) (s16 _ _ hrr), dp_pr2 ht2 hrr2, dep_pr _ (lk go ga), fun H17 s17 => ?_⟩
    exact q _
end
end St

namespace St
open PySem PySem.Spec PyProof.Rows L2
theorem all_mk {l : PySem.W.OpenLaw} {w : World} {K : PySem.W.Frag} {h : Heap} {mg : Str → Option Value} {fa f0 f1 f2 f3 f4 f5 f6 f7 f8 f9 f10 f11 f12 f13 f14 f15 f16 f17 f18 f19 f20 f21 f22 f23 f24 f25 f26 f27 f28 f29 f30 f31 f32 d0 d1 : Addr} (X : K.In h) (G : h.Ns mainGlobals mg) (hfa : mg "law" = some (.ref fa))
    {od0 an0 od1 an1 od2 an2 od3 an3 od4 an4 od5 an5 od6 an6 od7 an7 od8 an8 od9 an9 od10 an10 od11 an11 od12 an12 od13 an13 od14 an14 od15 an15 od16 an16 od17 an17 od18 an18 od19 an19 od20 an20 od21 an21 od22 an22 od23 an23 od24 an24 od25 an25 od26 an26 od27 an27 od28 an28 od29 an29 od30 an30 od31 an31 od32 an32 : Option Addr} {sl0 sl1 sl2 sl3 sl4 sl5 sl6 sl7 sl8 sl9 sl10 sl11 sl12 sl13 sl14 sl15 sl16 sl17 sl18 sl19 sl20 sl21 sl22 sl23 sl24 sl25 sl26 sl27 sl28 sl29 sl30 sl31 sl32 : Array (Option Value)} {oc0 kV0 dc0 pm0 cd0 ct0 oc1 kV1 dc1 pm1 cd1 ct1 oc2 kV2 dc2 pm2 cd2 ct2 oc3 kV3 dc3 pm3 cd3 ct3 oc4 kV4 dc4 pm4 cd4 ct4 oc5 kV5 dc5 pm5 cd5 ct5 oc6 kV6 dc6 pm6 cd6 ct6 oc7 kV7 dc7 pm7 cd7 ct7 oc8 kV8 dc8 pm8 cd8 ct8 oc9 kV9 dc9 pm9 cd9 ct9 oc10 kV10 dc10 pm10 cd10 ct10 oc11 kV11 dc11 pm11 cd11 ct11 oc12 kV12 dc12 pm12 cd12 ct12 oc13 kV13 dc13 pm13 cd13 ct13 oc14 kV14 dc14 pm14 cd14 ct14 oc15 kV15 dc15 pm15 cd15 ct15 oc16 kV16 dc16 pm16 cd16 ct16 oc17 kV17 dc17 pm17 cd17 ct17 oc18 kV18 dc18 pm18 cd18 ct18 oc19 kV19 dc19 pm19 cd19 ct19 oc20 kV20 dc20 pm20 cd20 ct20 oc21 kV21 dc21 pm21 cd21 ct21 oc22 kV22 dc22 pm22 cd22 ct22 oc23 kV23 dc23 pm23 cd23 ct23 oc24 kV24 dc24 pm24 cd24 ct24 oc25 kV25 dc25 pm25 cd25 ct25 oc26 kV26 dc26 pm26 cd26 ct26 oc27 kV27 dc27 pm27 cd27 ct27 oc28 kV28 dc28 pm28 cd28 ct28 oc29 kV29 dc29 pm29 cd29 ct29 oc30 kV30 dc30 pm30 cd30 ct30 oc31 kV31 dc31 pm31 cd31 ct31 oc32 kV32 dc32 pm32 cd32 ct32 : Value} {es0 es1 : Array DictEntry} {en0 en1 : Nat} {ti0 ti1 ti2 ti3 ti4 ti5 ti6 ti7 ti8 ti9 : Tok}
    {C0 fm0 : Addr} {odm0 anm0 : Option Addr} {slm0 : Array (Option Value)} {ocm0 kVm0 dcm0 pmm0 cdm0 ctm0 : Value}
    (a0 : PySem.W.nsIn K mainGlobals "laid" = some (some (.ref f0))) (l0 : K.lookup f0 = some ⟨oc0, od0, .func (PySem.W.fnOf "laid" "laid" (defArgs s_laid) (defBody s_laid) (defScope s_laid) .none kV0 dc0 pm0 an0 cd0 ct0), sl0⟩) (c0 : PySem.W.codeIn K cd0 "laid" = true) (k0 : PySem.W.keepIn K (.ref f0) = true)
    (a1 : PySem.W.nsIn K mainGlobals "come" = some (some (.ref f1))) (l1 : K.lookup f1 = some ⟨oc1, od1, .func (PySem.W.fnOf "come" "come" (defArgs s_come) (defBody s_come) (defScope s_come) .none kV1 dc1 pm1 an1 cd1 ct1), sl1⟩) (c1 : PySem.W.codeIn K cd1 "come" = true) (k1 : PySem.W.keepIn K (.ref f1) = true)
    (a2 : PySem.W.nsIn K mainGlobals "asked" = some (some (.ref f2))) (l2 : K.lookup f2 = some ⟨oc2, od2, .func (PySem.W.fnOf "asked" "asked" (defArgs s_asked) (defBody s_asked) (defScope s_asked) .none kV2 dc2 pm2 an2 cd2 ct2), sl2⟩) (c2 : PySem.W.codeIn K cd2 "asked" = true) (k2 : PySem.W.keepIn K (.ref f2) = true)
    (a3 : PySem.W.nsIn K mainGlobals "started" = some (some (.ref f3))) (l3 : K.lookup f3 = some ⟨oc3, od3, .func (PySem.W.fnOf "started" "started" (defArgs s_started) (defBody s_started) (defScope s_started) .none kV3 dc3 pm3 an3 cd3 ct3), sl3⟩) (c3 : PySem.W.codeIn K cd3 "started" = true) (k3 : PySem.W.keepIn K (.ref f3) = true)
    (a4 : PySem.W.nsIn K mainGlobals "strided" = some (some (.ref f4))) (l4 : K.lookup f4 = some ⟨oc4, od4, .func (PySem.W.fnOf "strided" "strided" (defArgs s_strided) (defBody s_strided) (defScope s_strided) .none kV4 dc4 pm4 an4 cd4 ct4), sl4⟩) (c4 : PySem.W.codeIn K cd4 "strided" = true) (k4 : PySem.W.keepIn K (.ref f4) = true)
    (a5 : PySem.W.nsIn K mainGlobals "paired" = some (some (.ref f5))) (l5 : K.lookup f5 = some ⟨oc5, od5, .func (PySem.W.fnOf "paired" "paired" (defArgs s_paired) (defBody s_paired) (defScope s_paired) .none kV5 dc5 pm5 an5 cd5 ct5), sl5⟩) (c5 : PySem.W.codeIn K cd5 "paired" = true) (k5 : PySem.W.keepIn K (.ref f5) = true)
    (a6 : PySem.W.nsIn K mainGlobals "stepped" = some (some (.ref f6))) (l6 : K.lookup f6 = some ⟨oc6, od6, .func (PySem.W.fnOf "stepped" "stepped" (defArgs s_stepped) (defBody s_stepped) (defScope s_stepped) .none kV6 dc6 pm6 an6 cd6 ct6), sl6⟩) (c6 : PySem.W.codeIn K cd6 "stepped" = true) (k6 : PySem.W.keepIn K (.ref f6) = true)
    (a7 : PySem.W.nsIn K mainGlobals "gone_on" = some (some (.ref f7))) (l7 : K.lookup f7 = some ⟨oc7, od7, .func (PySem.W.fnOf "gone_on" "gone_on" (defArgs s_gone_on) (defBody s_gone_on) (defScope s_gone_on) .none kV7 dc7 pm7 an7 cd7 ct7), sl7⟩) (c7 : PySem.W.codeIn K cd7 "gone_on" = true) (k7 : PySem.W.keepIn K (.ref f7) = true)
    (a8 : PySem.W.nsIn K mainGlobals "first_state" = some (some (.ref f8))) (l8 : K.lookup f8 = some ⟨oc8, od8, .func (PySem.W.fnOf "first_state" "first_state" (defArgs s_first_state) (defBody s_first_state) (defScope s_first_state) .none kV8 dc8 pm8 an8 cd8 ct8), sl8⟩) (c8 : PySem.W.codeIn K cd8 "first_state" = true) (k8 : PySem.W.keepIn K (.ref f8) = true)
    (a9 : PySem.W.nsIn K mainGlobals "begun" = some (some (.ref f9))) (l9 : K.lookup f9 = some ⟨oc9, od9, .func (PySem.W.fnOf "begun" "begun" (defArgs s_begun) (defBody s_begun) (defScope s_begun) .none kV9 dc9 pm9 an9 cd9 ct9), sl9⟩) (c9 : PySem.W.codeIn K cd9 "begun" = true) (k9 : PySem.W.keepIn K (.ref f9) = true)
    (a10 : PySem.W.nsIn K mainGlobals "is_guesser" = some (some (.ref f10))) (l10 : K.lookup f10 = some ⟨oc10, od10, .func (PySem.W.fnOf "is_guesser" "is_guesser" (defArgs s_is_guesser) (defBody s_is_guesser) (defScope s_is_guesser) .none kV10 dc10 pm10 an10 cd10 ct10), sl10⟩) (c10 : PySem.W.codeIn K cd10 "is_guesser" = true) (k10 : PySem.W.keepIn K (.ref f10) = true)
    (a11 : PySem.W.nsIn K mainGlobals "need_guesser" = some (some (.ref f11))) (l11 : K.lookup f11 = some ⟨oc11, od11, .func (PySem.W.fnOf "need_guesser" "need_guesser" (defArgs s_need_guesser) (defBody s_need_guesser) (defScope s_need_guesser) .none kV11 dc11 pm11 an11 cd11 ct11), sl11⟩) (c11 : PySem.W.codeIn K cd11 "need_guesser" = true) (k11 : PySem.W.keepIn K (.ref f11) = true)
    (a12 : PySem.W.nsIn K mainGlobals "need_setting" = some (some (.ref f12))) (l12 : K.lookup f12 = some ⟨oc12, od12, .func (PySem.W.fnOf "need_setting" "need_setting" (defArgs s_need_setting) (defBody s_need_setting) (defScope s_need_setting) .none kV12 dc12 pm12 an12 cd12 ct12), sl12⟩) (c12 : PySem.W.codeIn K cd12 "need_setting" = true) (k12 : PySem.W.keepIn K (.ref f12) = true)
    (a13 : PySem.W.nsIn K mainGlobals "need_weights" = some (some (.ref f13))) (l13 : K.lookup f13 = some ⟨oc13, od13, .func (PySem.W.fnOf "need_weights" "need_weights" (defArgs s_need_weights) (defBody s_need_weights) (defScope s_need_weights) .none kV13 dc13 pm13 an13 cd13 ct13), sl13⟩) (c13 : PySem.W.codeIn K cd13 "need_weights" = true) (k13 : PySem.W.keepIn K (.ref f13) = true)
    (a14 : PySem.W.nsIn K mainGlobals "need_rows" = some (some (.ref f14))) (l14 : K.lookup f14 = some ⟨oc14, od14, .func (PySem.W.fnOf "need_rows" "need_rows" (defArgs s_need_rows) (defBody s_need_rows) (defScope s_need_rows) .none kV14 dc14 pm14 an14 cd14 ct14), sl14⟩) (c14 : PySem.W.codeIn K cd14 "need_rows" = true) (k14 : PySem.W.keepIn K (.ref f14) = true)
    (a15 : PySem.W.nsIn K mainGlobals "turn_cost" = some (some (.ref f15))) (l15 : K.lookup f15 = some ⟨oc15, od15, .func (PySem.W.fnOf "turn_cost" "turn_cost" (defArgs s_turn_cost) (defBody s_turn_cost) (defScope s_turn_cost) .none kV15 dc15 pm15 an15 cd15 ct15), sl15⟩) (c15 : PySem.W.codeIn K cd15 "turn_cost" = true) (k15 : PySem.W.keepIn K (.ref f15) = true)
    (a16 : PySem.W.nsIn K mainGlobals "both_behind" = some (some (.ref f16))) (l16 : K.lookup f16 = some ⟨oc16, od16, .func (PySem.W.fnOf "both_behind" "both_behind" (defArgs s_both_behind) (defBody s_both_behind) (defScope s_both_behind) .none kV16 dc16 pm16 an16 cd16 ct16), sl16⟩) (c16 : PySem.W.codeIn K cd16 "both_behind" = true) (k16 : PySem.W.keepIn K (.ref f16) = true)
    (a17 : PySem.W.nsIn K mainGlobals "idle_in" = some (some (.ref f17))) (l17 : K.lookup f17 = some ⟨oc17, od17, .func (PySem.W.fnOf "idle_in" "idle_in" (defArgs s_idle_in) (defBody s_idle_in) (defScope s_idle_in) .none kV17 dc17 pm17 an17 cd17 ct17), sl17⟩) (c17 : PySem.W.codeIn K cd17 "idle_in" = true) (k17 : PySem.W.keepIn K (.ref f17) = true)
    (a18 : PySem.W.nsIn K mainGlobals "worst" = some (some (.ref f18))) (l18 : K.lookup f18 = some ⟨oc18, od18, .func (PySem.W.fnOf "worst" "worst" (defArgs s_worst) (defBody s_worst) (defScope s_worst) .none kV18 dc18 pm18 an18 cd18 ct18), sl18⟩) (c18 : PySem.W.codeIn K cd18 "worst" = true) (k18 : PySem.W.keepIn K (.ref f18) = true)
    (a19 : PySem.W.nsIn K mainGlobals "_law_taken" = some (some (.ref f19))) (l19 : K.lookup f19 = some ⟨oc19, od19, .func (PySem.W.fnOf "_law_taken" "_law_taken" (defArgs s__law_taken) (defBody s__law_taken) (defScope s__law_taken) .none kV19 dc19 pm19 an19 cd19 ct19), sl19⟩) (c19 : PySem.W.codeIn K cd19 "_law_taken" = true) (k19 : PySem.W.keepIn K (.ref f19) = true)
    (a20 : PySem.W.nsIn K mainGlobals "_law_alike" = some (some (.ref f20))) (l20 : K.lookup f20 = some ⟨oc20, od20, .func (PySem.W.fnOf "_law_alike" "_law_alike" (defArgs s__law_alike) (defBody s__law_alike) (defScope s__law_alike) .none kV20 dc20 pm20 an20 cd20 ct20), sl20⟩) (c20 : PySem.W.codeIn K cd20 "_law_alike" = true) (k20 : PySem.W.keepIn K (.ref f20) = true)
    (a21 : PySem.W.nsIn K mainGlobals "_law_guesser" = some (some (.ref f21))) (l21 : K.lookup f21 = some ⟨oc21, od21, .func (PySem.W.fnOf "_law_guesser" "_law_guesser" (defArgs s__law_guesser) (defBody s__law_guesser) (defScope s__law_guesser) .none kV21 dc21 pm21 an21 cd21 ct21), sl21⟩) (c21 : PySem.W.codeIn K cd21 "_law_guesser" = true) (k21 : PySem.W.keepIn K (.ref f21) = true)
    (a22 : PySem.W.nsIn K mainGlobals "_law_setting" = some (some (.ref f22))) (l22 : K.lookup f22 = some ⟨oc22, od22, .func (PySem.W.fnOf "_law_setting" "_law_setting" (defArgs s__law_setting) (defBody s__law_setting) (defScope s__law_setting) .none kV22 dc22 pm22 an22 cd22 ct22), sl22⟩) (c22 : PySem.W.codeIn K cd22 "_law_setting" = true) (k22 : PySem.W.keepIn K (.ref f22) = true)
    (a23 : PySem.W.nsIn K mainGlobals "_law_guessed" = some (some (.ref f23))) (l23 : K.lookup f23 = some ⟨oc23, od23, .func (PySem.W.fnOf "_law_guessed" "_law_guessed" (defArgs s__law_guessed) (defBody s__law_guessed) (defScope s__law_guessed) .none kV23 dc23 pm23 an23 cd23 ct23), sl23⟩) (c23 : PySem.W.codeIn K cd23 "_law_guessed" = true) (k23 : PySem.W.keepIn K (.ref f23) = true)
    (a24 : PySem.W.nsIn K mainGlobals "_law_laid" = some (some (.ref f24))) (l24 : K.lookup f24 = some ⟨oc24, od24, .func (PySem.W.fnOf "_law_laid" "_law_laid" (defArgs s__law_laid) (defBody s__law_laid) (defScope s__law_laid) .none kV24 dc24 pm24 an24 cd24 ct24), sl24⟩) (c24 : PySem.W.codeIn K cd24 "_law_laid" = true) (k24 : PySem.W.keepIn K (.ref f24) = true)
    (a25 : PySem.W.nsIn K mainGlobals "_law_asked" = some (some (.ref f25))) (l25 : K.lookup f25 = some ⟨oc25, od25, .func (PySem.W.fnOf "_law_asked" "_law_asked" (defArgs s__law_asked) (defBody s__law_asked) (defScope s__law_asked) .none kV25 dc25 pm25 an25 cd25 ct25), sl25⟩) (c25 : PySem.W.codeIn K cd25 "_law_asked" = true) (k25 : PySem.W.keepIn K (.ref f25) = true)
    (a26 : PySem.W.nsIn K mainGlobals "_law_run" = some (some (.ref f26))) (l26 : K.lookup f26 = some ⟨oc26, od26, .func (PySem.W.fnOf "_law_run" "_law_run" (defArgs s__law_run) (defBody s__law_run) (defScope s__law_run) .none kV26 dc26 pm26 an26 cd26 ct26), sl26⟩) (c26 : PySem.W.codeIn K cd26 "_law_run" = true) (k26 : PySem.W.keepIn K (.ref f26) = true)
    (a27 : PySem.W.nsIn K mainGlobals "_law_counts" = some (some (.ref f27))) (l27 : K.lookup f27 = some ⟨oc27, od27, .func (PySem.W.fnOf "_law_counts" "_law_counts" (defArgs s__law_counts) (defBody s__law_counts) (defScope s__law_counts) .none kV27 dc27 pm27 an27 cd27 ct27), sl27⟩) (c27 : PySem.W.codeIn K cd27 "_law_counts" = true) (k27 : PySem.W.keepIn K (.ref f27) = true)
    (a28 : PySem.W.nsIn K mainGlobals "_law_cost" = some (some (.ref f28))) (l28 : K.lookup f28 = some ⟨oc28, od28, .func (PySem.W.fnOf "_law_cost" "_law_cost" (defArgs s__law_cost) (defBody s__law_cost) (defScope s__law_cost) .none kV28 dc28 pm28 an28 cd28 ct28), sl28⟩) (c28 : PySem.W.codeIn K cd28 "_law_cost" = true) (k28 : PySem.W.keepIn K (.ref f28) = true)
    (a29 : PySem.W.nsIn K mainGlobals "_law_weights" = some (some (.ref f29))) (l29 : K.lookup f29 = some ⟨oc29, od29, .func (PySem.W.fnOf "_law_weights" "_law_weights" (defArgs s__law_weights) (defBody s__law_weights) (defScope s__law_weights) .none kV29 dc29 pm29 an29 cd29 ct29), sl29⟩) (c29 : PySem.W.codeIn K cd29 "_law_weights" = true) (k29 : PySem.W.keepIn K (.ref f29) = true)
    (a30 : PySem.W.nsIn K mainGlobals "_law_rows" = some (some (.ref f30))) (l30 : K.lookup f30 = some ⟨oc30, od30, .func (PySem.W.fnOf "_law_rows" "_law_rows" (defArgs s__law_rows) (defBody s__law_rows) (defScope s__law_rows) .none kV30 dc30 pm30 an30 cd30 ct30), sl30⟩) (c30 : PySem.W.codeIn K cd30 "_law_rows" = true) (k30 : PySem.W.keepIn K (.ref f30) = true)
    (a31 : PySem.W.nsIn K mainGlobals "_law_worst" = some (some (.ref f31))) (l31 : K.lookup f31 = some ⟨oc31, od31, .func (PySem.W.fnOf "_law_worst" "_law_worst" (defArgs s__law_worst) (defBody s__law_worst) (defScope s__law_worst) .none kV31 dc31 pm31 an31 cd31 ct31), sl31⟩) (c31 : PySem.W.codeIn K cd31 "_law_worst" = true) (k31 : PySem.W.keepIn K (.ref f31) = true)
    (a32 : PySem.W.nsIn K mainGlobals "law" = some (some (.ref f32))) (l32 : K.lookup f32 = some ⟨oc32, od32, .func (PySem.W.fnOf "law" "law" (defArgs s_law) (defBody s_law) (defScope s_law) .none kV32 dc32 pm32 an32 cd32 ct32), sl32⟩) (c32 : PySem.W.codeIn K cd32 "law" = true) (k32 : PySem.W.keepIn K (.ref f32) = true)
    (aC0 : PySem.W.nsIn K mainGlobals "House" = some (some (.ref C0))) (pgC0 : PySem.W.plainGet K C0 Str.empty = true) (hdC0 : PySem.W.hasDictIn K C0 = true) (poC0 : PySem.W.plainOver K C0 = true) (saC0 : PySem.W.findIn K (.ref C0) "__setattr__" = some (some (.builtin "object.__setattr__"))) (mkC0 : PySem.W.makesIn K C0 = true) (kcC0 : PySem.W.keepIn K (.ref C0) = true)
    (nat_House_places : PySem.W.findIn K (.ref C0) "places" = some none)
    (nat_House_room : PySem.W.findIn K (.ref C0) "room" = some none)
    (nat_House_late : PySem.W.findIn K (.ref C0) "late" = some none)
    (nat_House_most : PySem.W.findIn K (.ref C0) "most" = some none)
    (am0 : PySem.W.findIn K (.ref C0) "__init__" = some (some (.ref fm0))) (im0 : PySem.W.isFn K (.ref fm0) = true) (lm0 : K.lookup fm0 = some ⟨ocm0, odm0, .func (PySem.W.fnOf "__init__" "House.__init__" (defArgs s_House___init__) (defBody s_House___init__) (defScope s_House___init__) .none kVm0 dcm0 pmm0 anm0 cdm0 ctm0), slm0⟩) (cm0 : PySem.W.codeIn K cdm0 "House.__init__" = true) (km0 : PySem.W.keepIn K (.ref fm0) = true)
    (ad0 : PySem.W.nsIn K mainGlobals "SORTS" = some (some (.ref d0))) (ld0 : K.lookup d0 = some ⟨.type "dict", none, .dict es0 en0, #[]⟩) (lo0 : (d0 == sysModules) = false) (li0 : PySem.W.KeysLit w.params es0.toList) (ee0 : ∃ t0 u0 t1 u1 t2 u2 t3 u3 t4 u4, es0.toList.map (fun e => (e.key, e.val)) = [(.str "none" t0, .int 1 u0), (.str "next" t1, .int 2 u1), (.str "stride" t2, .int 2 u2), (.str "pairs" t3, .int 2 u3), (.str "both" t4, .int 3 u4)])
    (ad1 : PySem.W.nsIn K mainGlobals "MOST_OF" = some (some (.ref d1))) (ld1 : K.lookup d1 = some ⟨.type "dict", none, .dict es1 en1, #[]⟩) (lo1 : (d1 == sysModules) = false) (li1 : PySem.W.KeysLit w.params es1.toList) (ee1 : ∃ t0 u0 t1 u1 t2 u2, es1.toList.map (fun e => (e.key, e.val)) = [(.str "next" t0, .int 3 u0), (.str "stride" t1, .int 3 u1), (.str "pairs" t2, .int 2 u2)])
    (ai0 : PySem.W.nsIn K mainGlobals "MOST_WITHIN" = some (some (.int 3 ti0)))
    (ai1 : PySem.W.nsIn K mainGlobals "MOST_PLACES" = some (some (.int 32 ti1)))
    (ai2 : PySem.W.nsIn K mainGlobals "MOST_NUMBER" = some (some (.int 99 ti2)))
    (ai3 : PySem.W.nsIn K mainGlobals "MOST_ROOM" = some (some (.int 8 ti3)))
    (ai4 : PySem.W.nsIn K mainGlobals "MOST_LATE" = some (some (.int 4 ti4)))
    (ai5 : PySem.W.nsIn K mainGlobals "MOST_WAY" = some (some (.int 4 ti5)))
    (ai6 : PySem.W.nsIn K mainGlobals "MOST_WEIGHT" = some (some (.int 9 ti6)))
    (ai7 : PySem.W.nsIn K mainGlobals "MOST_ASKED" = some (some (.int 4 ti7)))
    (ai8 : PySem.W.nsIn K mainGlobals "MOST_LENGTH" = some (some (.int 7 ti8)))
    (ai9 : PySem.W.nsIn K mainGlobals "MOST_ROWS" = some (some (.int 1024 ti9)))
    (z0 : PySem.W.nsIn K mainGlobals "len" = some none)
    (z1 : PySem.W.nsIn K mainGlobals "range" = some none)
    (z2 : PySem.W.nsIn K mainGlobals "int" = some none)
    (z3 : PySem.W.nsIn K mainGlobals "str" = some none)
    (z4 : PySem.W.nsIn K mainGlobals "bool" = some none)
    (z5 : PySem.W.nsIn K mainGlobals "tuple" = some none)
    (z6 : PySem.W.nsIn K mainGlobals "list" = some none)
    (z7 : PySem.W.nsIn K mainGlobals "isinstance" = some none)
    (z8 : PySem.W.nsIn K mainGlobals "max" = some none)
    (z9 : PySem.W.nsIn K mainGlobals "min" = some none)
    (z10 : PySem.W.nsIn K mainGlobals "sum" = some none)
    (z11 : PySem.W.nsIn K mainGlobals "sorted" = some none)
    (z12 : PySem.W.nsIn K mainGlobals "dict" = some none)
    (z13 : PySem.W.nsIn K mainGlobals "set" = some none)
    (z14 : PySem.W.nsIn K mainGlobals "zip" = some none)
    (z15 : PySem.W.nsIn K mainGlobals "enumerate" = some none) :
    ∃ fd : FuncData, (∀ (s : Shared) (v : Value), BindsTo s fd ⟨[v], []⟩ [("_law_script", v)]) ∧ ∀ base : Heap, K.In base → base.Ns mainGlobals mg → FnOk l.prog w K mg base CX0 11 fa fd ["_law_script"] (spLaw K) := by
  have e := hfa.symm.trans (PySem.W.mg_of X G a32)
  cases e
  have D_laid : Df K mg "laid" s_laid p_laid f0 (PySem.W.fnOf "laid" "laid" (defArgs s_laid) (defBody s_laid) (defScope s_laid) .none kV0 dc0 pm0 an0 cd0 ct0) := ⟨fun_mk (st := s_laid) l0 c0 k0, PySem.W.mg_of X G a0, (fun_mk (st := s_laid) l0 c0 k0).binds (ps := p_laid) fun _ _ _ _ _ _ us hl => match us, hl with | [_, _, _, _, _], _ => rfl⟩
  have D_come : Df K mg "come" s_come p_come f1 (PySem.W.fnOf "come" "come" (defArgs s_come) (defBody s_come) (defScope s_come) .none kV1 dc1 pm1 an1 cd1 ct1) := ⟨fun_mk (st := s_come) l1 c1 k1, PySem.W.mg_of X G a1, (fun_mk (st := s_come) l1 c1 k1).binds (ps := p_come) fun _ _ _ _ _ _ us hl => match us, hl with | [_, _, _, _], _ => rfl⟩
  have D_asked : Df K mg "asked" s_asked p_asked f2 (PySem.W.fnOf "asked" "asked" (defArgs s_asked) (defBody s_asked) (defScope s_asked) .none kV2 dc2 pm2 an2 cd2 ct2) := ⟨fun_mk (st := s_asked) l2 c2 k2, PySem.W.mg_of X G a2, (fun_mk (st := s_asked) l2 c2 k2).binds (ps := p_asked) fun _ _ _ _ _ _ us hl => match us, hl with | [_, _, _, _, _], _ => rfl⟩
  have D_started : Df K mg "started" s_started p_started f3 (PySem.W.fnOf "started" "started" (defArgs s_started) (defBody s_started) (defScope s_started) .none kV3 dc3 pm3 an3 cd3 ct3) := ⟨fun_mk (st := s_started) l3 c3 k3, PySem.W.mg_of X G a3, (fun_mk (st := s_started) l3 c3 k3).binds (ps := p_started) fun _ _ _ _ _ _ us hl => match us, hl with | [_, _, _, _, _], _ => rfl⟩
  have D_strided : Df K mg "strided" s_strided p_strided f4 (PySem.W.fnOf "strided" "strided" (defArgs s_strided) (defBody s_strided) (defScope s_strided) .none kV4 dc4 pm4 an4 cd4 ct4) := ⟨fun_mk (st := s_strided) l4 c4 k4, PySem.W.mg_of X G a4, (fun_mk (st := s_strided) l4 c4 k4).binds (ps := p_strided) fun _ _ _ _ _ _ us hl => match us, hl with | [_, _, _], _ => rfl⟩
  have D_paired : Df K mg "paired" s_paired p_paired f5 (PySem.W.fnOf "paired" "paired" (defArgs s_paired) (defBody s_paired) (defScope s_paired) .none kV5 dc5 pm5 an5 cd5 ct5) := ⟨fun_mk (st := s_paired) l5 c5 k5, PySem.W.mg_of X G a5, (fun_mk (st := s_paired) l5 c5 k5).binds (ps := p_paired) fun _ _ _ _ _ _ us hl => match us, hl with | [_, _, _], _ => rfl⟩
  have D_stepped : Df K mg "stepped" s_stepped p_stepped f6 (PySem.W.fnOf "stepped" "stepped" (defArgs s_stepped) (defBody s_stepped) (defScope s_stepped) .none kV6 dc6 pm6 an6 cd6 ct6) := ⟨fun_mk (st := s_stepped) l6 c6 k6, PySem.W.mg_of X G a6, (fun_mk (st := s_stepped) l6 c6 k6).binds (ps := p_stepped) fun _ _ _ _ _ _ us hl => match us, hl with | [_, _, _], _ => rfl⟩
  have D_gone_on : Df K mg "gone_on" s_gone_on p_gone_on f7 (PySem.W.fnOf "gone_on" "gone_on" (defArgs s_gone_on) (defBody s_gone_on) (defScope s_gone_on) .none kV7 dc7 pm7 an7 cd7 ct7) := ⟨fun_mk (st := s_gone_on) l7 c7 k7, PySem.W.mg_of X G a7, (fun_mk (st := s_gone_on) l7 c7 k7).binds (ps := p_gone_on) fun _ _ _ _ _ _ us hl => match us, hl with | [_, _, _, _], _ => rfl⟩
  have D_first_state : Df K mg "first_state" s_first_state p_first_state f8 (PySem.W.fnOf "first_state" "first_state" (defArgs s_first_state) (defBody s_first_state) (defScope s_first_state) .none kV8 dc8 pm8 an8 cd8 ct8) := ⟨fun_mk (st := s_first_state) l8 c8 k8, PySem.W.mg_of X G a8, (fun_mk (st := s_first_state) l8 c8 k8).binds (ps := p_first_state) fun _ _ _ _ _ _ us hl => match us, hl with | [_], _ => rfl⟩
  have D_begun : Df K mg "begun" s_begun p_begun f9 (PySem.W.fnOf "begun" "begun" (defArgs s_begun) (defBody s_begun) (defScope s_begun) .none kV9 dc9 pm9 an9 cd9 ct9) := ⟨fun_mk (st := s_begun) l9 c9 k9, PySem.W.mg_of X G a9, (fun_mk (st := s_begun) l9 c9 k9).binds (ps := p_begun) fun _ _ _ _ _ _ us hl => match us, hl with | [_], _ => rfl⟩
  have D_is_guesser : Df K mg "is_guesser" s_is_guesser p_is_guesser f10 (PySem.W.fnOf "is_guesser" "is_guesser" (defArgs s_is_guesser) (defBody s_is_guesser) (defScope s_is_guesser) .none kV10 dc10 pm10 an10 cd10 ct10) := ⟨fun_mk (st := s_is_guesser) l10 c10 k10, PySem.W.mg_of X G a10, (fun_mk (st := s_is_guesser) l10 c10 k10).binds (ps := p_is_guesser) fun _ _ _ _ _ _ us hl => match us, hl with | [_, _], _ => rfl⟩
  have D_need_guesser : Df K mg "need_guesser" s_need_guesser p_need_guesser f11 (PySem.W.fnOf "need_guesser" "need_guesser" (defArgs s_need_guesser) (defBody s_need_guesser) (defScope s_need_guesser) .none kV11 dc11 pm11 an11 cd11 ct11) := ⟨fun_mk (st := s_need_guesser) l11 c11 k11, PySem.W.mg_of X G a11, (fun_mk (st := s_need_guesser) l11 c11 k11).binds (ps := p_need_guesser) fun _ _ _ _ _ _ us hl => match us, hl with | [_], _ => rfl⟩
  have D_need_setting : Df K mg "need_setting" s_need_setting p_need_setting f12 (PySem.W.fnOf "need_setting" "need_setting" (defArgs s_need_setting) (defBody s_need_setting) (defScope s_need_setting) .none kV12 dc12 pm12 an12 cd12 ct12) := ⟨fun_mk (st := s_need_setting) l12 c12 k12, PySem.W.mg_of X G a12, (fun_mk (st := s_need_setting) l12 c12 k12).binds (ps := p_need_setting) fun _ _ _ _ _ _ us hl => match us, hl with | [_], _ => rfl⟩
  have D_need_weights : Df K mg "need_weights" s_need_weights p_need_weights f13 (PySem.W.fnOf "need_weights" "need_weights" (defArgs s_need_weights) (defBody s_need_weights) (defScope s_need_weights) .none kV13 dc13 pm13 an13 cd13 ct13) := ⟨fun_mk (st := s_need_weights) l13 c13 k13, PySem.W.mg_of X G a13, (fun_mk (st := s_need_weights) l13 c13 k13).binds (ps := p_need_weights) fun _ _ _ _ _ _ us hl => match us, hl with | [_], _ => rfl⟩
  have D_need_rows : Df K mg "need_rows" s_need_rows p_need_rows f14 (PySem.W.fnOf "need_rows" "need_rows" (defArgs s_need_rows) (defBody s_need_rows) (defScope s_need_rows) .none kV14 dc14 pm14 an14 cd14 ct14) := ⟨fun_mk (st := s_need_rows) l14 c14 k14, PySem.W.mg_of X G a14, (fun_mk (st := s_need_rows) l14 c14 k14).binds (ps := p_need_rows) fun _ _ _ _ _ _ us hl => match us, hl with | [_, _, _], _ => rfl⟩
  have D_turn_cost : Df K mg "turn_cost" s_turn_cost p_turn_cost f15 (PySem.W.fnOf "turn_cost" "turn_cost" (defArgs s_turn_cost) (defBody s_turn_cost) (defScope s_turn_cost) .none kV15 dc15 pm15 an15 cd15 ct15) := ⟨fun_mk (st := s_turn_cost) l15 c15 k15, PySem.W.mg_of X G a15, (fun_mk (st := s_turn_cost) l15 c15 k15).binds (ps := p_turn_cost) fun _ _ _ _ _ _ us hl => match us, hl with | [_, _], _ => rfl⟩
  have D_both_behind : Df K mg "both_behind" s_both_behind p_both_behind f16 (PySem.W.fnOf "both_behind" "both_behind" (defArgs s_both_behind) (defBody s_both_behind) (defScope s_both_behind) .none kV16 dc16 pm16 an16 cd16 ct16) := ⟨fun_mk (st := s_both_behind) l16 c16 k16, PySem.W.mg_of X G a16, (fun_mk (st := s_both_behind) l16 c16 k16).binds (ps := p_both_behind) fun _ _ _ _ _ _ us hl => match us, hl with | [_, _, _, _, _], _ => rfl⟩
  have D_idle_in : Df K mg "idle_in" s_idle_in p_idle_in f17 (PySem.W.fnOf "idle_in" "idle_in" (defArgs s_idle_in) (defBody s_idle_in) (defScope s_idle_in) .none kV17 dc17 pm17 an17 cd17 ct17) := ⟨fun_mk (st := s_idle_in) l17 c17 k17, PySem.W.mg_of X G a17, (fun_mk (st := s_idle_in) l17 c17 k17).binds (ps := p_idle_in) fun _ _ _ _ _ _ us hl => match us, hl with | [_], _ => rfl⟩
  have D_worst : Df K mg "worst" s_worst p_worst f18 (PySem.W.fnOf "worst" "worst" (defArgs s_worst) (defBody s_worst) (defScope s_worst) .none kV18 dc18 pm18 an18 cd18 ct18) := ⟨fun_mk (st := s_worst) l18 c18 k18, PySem.W.mg_of X G a18, (fun_mk (st := s_worst) l18 c18 k18).binds (ps := p_worst) fun _ _ _ _ _ _ us hl => match us, hl with | [_, _, _, _, _, _], _ => rfl⟩
  have D__law_taken : Df K mg "_law_taken" s__law_taken p__law_taken f19 (PySem.W.fnOf "_law_taken" "_law_taken" (defArgs s__law_taken) (defBody s__law_taken) (defScope s__law_taken) .none kV19 dc19 pm19 an19 cd19 ct19) := ⟨fun_mk (st := s__law_taken) l19 c19 k19, PySem.W.mg_of X G a19, (fun_mk (st := s__law_taken) l19 c19 k19).binds (ps := p__law_taken) fun _ _ _ _ _ _ us hl => match us, hl with | [_, _], _ => rfl⟩
  have D__law_alike : Df K mg "_law_alike" s__law_alike p__law_alike f20 (PySem.W.fnOf "_law_alike" "_law_alike" (defArgs s__law_alike) (defBody s__law_alike) (defScope s__law_alike) .none kV20 dc20 pm20 an20 cd20 ct20) := ⟨fun_mk (st := s__law_alike) l20 c20 k20, PySem.W.mg_of X G a20, (fun_mk (st := s__law_alike) l20 c20 k20).binds (ps := p__law_alike) fun _ _ _ _ _ _ us hl => match us, hl with | [_, _], _ => rfl⟩
  have D__law_guesser : Df K mg "_law_guesser" s__law_guesser p__law_guesser f21 (PySem.W.fnOf "_law_guesser" "_law_guesser" (defArgs s__law_guesser) (defBody s__law_guesser) (defScope s__law_guesser) .none kV21 dc21 pm21 an21 cd21 ct21) := ⟨fun_mk (st := s__law_guesser) l21 c21 k21, PySem.W.mg_of X G a21, (fun_mk (st := s__law_guesser) l21 c21 k21).binds (ps := p__law_guesser) fun _ _ _ _ _ _ us hl => match us, hl with | [_, _], _ => rfl⟩
  have D__law_setting : Df K mg "_law_setting" s__law_setting p__law_setting f22 (PySem.W.fnOf "_law_setting" "_law_setting" (defArgs s__law_setting) (defBody s__law_setting) (defScope s__law_setting) .none kV22 dc22 pm22 an22 cd22 ct22) := ⟨fun_mk (st := s__law_setting) l22 c22 k22, PySem.W.mg_of X G a22, (fun_mk (st := s__law_setting) l22 c22 k22).binds (ps := p__law_setting) fun _ _ _ _ _ _ us hl => match us, hl with | [_, _], _ => rfl⟩
  have D__law_guessed : Df K mg "_law_guessed" s__law_guessed p__law_guessed f23 (PySem.W.fnOf "_law_guessed" "_law_guessed" (defArgs s__law_guessed) (defBody s__law_guessed) (defScope s__law_guessed) .none kV23 dc23 pm23 an23 cd23 ct23) := ⟨fun_mk (st := s__law_guessed) l23 c23 k23, PySem.W.mg_of X G a23, (fun_mk (st := s__law_guessed) l23 c23 k23).binds (ps := p__law_guessed) fun _ _ _ _ _ _ us hl => match us, hl with | [_, _], _ => rfl⟩
  have D__law_laid : Df K mg "_law_laid" s__law_laid p__law_laid f24 (PySem.W.fnOf "_law_laid" "_law_laid" (defArgs s__law_laid) (defBody s__law_laid) (defScope s__law_laid) .none kV24 dc24 pm24 an24 cd24 ct24) := ⟨fun_mk (st := s__law_laid) l24 c24 k24, PySem.W.mg_of X G a24, (fun_mk (st := s__law_laid) l24 c24 k24).binds (ps := p__law_laid) fun _ _ _ _ _ _ us hl => match us, hl with | [_, _, _, _, _], _ => rfl⟩
  have D__law_asked : Df K mg "_law_asked" s__law_asked p__law_asked f25 (PySem.W.fnOf "_law_asked" "_law_asked" (defArgs s__law_asked) (defBody s__law_asked) (defScope s__law_asked) .none kV25 dc25 pm25 an25 cd25 ct25) := ⟨fun_mk (st := s__law_asked) l25 c25 k25, PySem.W.mg_of X G a25, (fun_mk (st := s__law_asked) l25 c25 k25).binds (ps := p__law_asked) fun _ _ _ _ _ _ us hl => match us, hl with | [_, _, _, _], _ => rfl⟩
  have D__law_run : Df K mg "_law_run" s__law_run p__law_run f26 (PySem.W.fnOf "_law_run" "_law_run" (defArgs s__law_run) (defBody s__law_run) (defScope s__law_run) .none kV26 dc26 pm26 an26 cd26 ct26) := ⟨fun_mk (st := s__law_run) l26 c26 k26, PySem.W.mg_of X G a26, (fun_mk (st := s__law_run) l26 c26 k26).binds (ps := p__law_run) fun _ _ _ _ _ _ us hl => match us, hl with | [_, _, _], _ => rfl⟩
  have D__law_counts : Df K mg "_law_counts" s__law_counts p__law_counts f27 (PySem.W.fnOf "_law_counts" "_law_counts" (defArgs s__law_counts) (defBody s__law_counts) (defScope s__law_counts) .none kV27 dc27 pm27 an27 cd27 ct27) := ⟨fun_mk (st := s__law_counts) l27 c27 k27, PySem.W.mg_of X G a27, (fun_mk (st := s__law_counts) l27 c27 k27).binds (ps := p__law_counts) fun _ _ _ _ _ _ us hl => match us, hl with | [_], _ => rfl⟩
  have D__law_cost : Df K mg "_law_cost" s__law_cost p__law_cost f28 (PySem.W.fnOf "_law_cost" "_law_cost" (defArgs s__law_cost) (defBody s__law_cost) (defScope s__law_cost) .none kV28 dc28 pm28 an28 cd28 ct28) := ⟨fun_mk (st := s__law_cost) l28 c28 k28, PySem.W.mg_of X G a28, (fun_mk (st := s__law_cost) l28 c28 k28).binds (ps := p__law_cost) fun _ _ _ _ _ _ us hl => match us, hl with | [_, _, _, _], _ => rfl⟩
  have D__law_weights : Df K mg "_law_weights" s__law_weights p__law_weights f29 (PySem.W.fnOf "_law_weights" "_law_weights" (defArgs s__law_weights) (defBody s__law_weights) (defScope s__law_weights) .none kV29 dc29 pm29 an29 cd29 ct29) := ⟨fun_mk (st := s__law_weights) l29 c29 k29, PySem.W.mg_of X G a29, (fun_mk (st := s__law_weights) l29 c29 k29).binds (ps := p__law_weights) fun _ _ _ _ _ _ us hl => match us, hl with | [_], _ => rfl⟩
  have D__law_rows : Df K mg "_law_rows" s__law_rows p__law_rows f30 (PySem.W.fnOf "_law_rows" "_law_rows" (defArgs s__law_rows) (defBody s__law_rows) (defScope s__law_rows) .none kV30 dc30 pm30 an30 cd30 ct30) := ⟨fun_mk (st := s__law_rows) l30 c30 k30, PySem.W.mg_of X G a30, (fun_mk (st := s__law_rows) l30 c30 k30).binds (ps := p__law_rows) fun _ _ _ _ _ _ us hl => match us, hl with | [_, _], _ => rfl⟩
  have D__law_worst : Df K mg "_law_worst" s__law_worst p__law_worst f31 (PySem.W.fnOf "_law_worst" "_law_worst" (defArgs s__law_worst) (defBody s__law_worst) (defScope s__law_worst) .none kV31 dc31 pm31 an31 cd31 ct31) := ⟨fun_mk (st := s__law_worst) l31 c31 k31, PySem.W.mg_of X G a31, (fun_mk (st := s__law_worst) l31 c31 k31).binds (ps := p__law_worst) fun _ _ _ _ _ _ us hl => match us, hl with | [_, _, _, _, _], _ => rfl⟩
  have KC_House : ClassD K mg "House" C0 fm0 := ⟨PySem.W.mg_of X G aC0, ⟨mkC0, am0, im0, kcC0⟩, ⟨pgC0, hdC0, poC0, saC0⟩⟩
  have D_House___init__ : Mf K C0 "__init__" "House.__init__" s_House___init__ p_House___init__ fm0 (PySem.W.fnOf "__init__" "House.__init__" (defArgs s_House___init__) (defBody s_House___init__) (defScope s_House___init__) .none kVm0 dcm0 pmm0 anm0 cdm0 ctm0) := ⟨fun_mk (st := s_House___init__) lm0 cm0 km0, (fun_mk (st := s_House___init__) lm0 cm0 km0).binds (ps := p_House___init__) fun _ _ _ _ _ _ us hl => match us, hl with | [_, _], _ => rfl, ⟨am0, im0, km0⟩⟩
  have I_SORTS : IDict K w d0 [("none", 1), ("next", 2), ("stride", 2), ("pairs", 2), ("both", 3)] := ⟨⟨es0, en0, ⟨ld0, li0, lo0⟩, by obtain ⟨_, _, _, _, _, _, _, _, _, _, e⟩ := ee0; rw [e]; exact (.cons ⟨⟨_, rfl⟩, ⟨_, rfl⟩⟩ (.cons ⟨⟨_, rfl⟩, ⟨_, rfl⟩⟩ (.cons ⟨⟨_, rfl⟩, ⟨_, rfl⟩⟩ (.cons ⟨⟨_, rfl⟩, ⟨_, rfl⟩⟩ (.cons ⟨⟨_, rfl⟩, ⟨_, rfl⟩⟩ .nil)))))⟩⟩
  have g_SORTS := PySem.W.mg_of X G ad0
  have I_MOST_OF : IDict K w d1 [("next", 3), ("stride", 3), ("pairs", 2)] := ⟨⟨es1, en1, ⟨ld1, li1, lo1⟩, by obtain ⟨_, _, _, _, _, _, e⟩ := ee1; rw [e]; exact (.cons ⟨⟨_, rfl⟩, ⟨_, rfl⟩⟩ (.cons ⟨⟨_, rfl⟩, ⟨_, rfl⟩⟩ (.cons ⟨⟨_, rfl⟩, ⟨_, rfl⟩⟩ .nil)))⟩⟩
  have g_MOST_OF := PySem.W.mg_of X G ad1
  have g_MOST_WITHIN : ∃ t, mg "MOST_WITHIN" = some (.int 3 t) := ⟨_, PySem.W.mg_of X G ai0⟩
  have g_MOST_PLACES : ∃ t, mg "MOST_PLACES" = some (.int 32 t) := ⟨_, PySem.W.mg_of X G ai1⟩
  have g_MOST_NUMBER : ∃ t, mg "MOST_NUMBER" = some (.int 99 t) := ⟨_, PySem.W.mg_of X G ai2⟩
  have g_MOST_ROOM : ∃ t, mg "MOST_ROOM" = some (.int 8 t) := ⟨_, PySem.W.mg_of X G ai3⟩
  have g_MOST_LATE : ∃ t, mg "MOST_LATE" = some (.int 4 t) := ⟨_, PySem.W.mg_of X G ai4⟩
  have g_MOST_WAY : ∃ t, mg "MOST_WAY" = some (.int 4 t) := ⟨_, PySem.W.mg_of X G ai5⟩
  have g_MOST_WEIGHT : ∃ t, mg "MOST_WEIGHT" = some (.int 9 t) := ⟨_, PySem.W.mg_of X G ai6⟩
  have g_MOST_ASKED : ∃ t, mg "MOST_ASKED" = some (.int 4 t) := ⟨_, PySem.W.mg_of X G ai7⟩
  have g_MOST_LENGTH : ∃ t, mg "MOST_LENGTH" = some (.int 7 t) := ⟨_, PySem.W.mg_of X G ai8⟩
  have g_MOST_ROWS : ∃ t, mg "MOST_ROWS" = some (.int 1024 t) := ⟨_, PySem.W.mg_of X G ai9⟩
  have T : Nms mg := ⟨PySem.W.mg_none_of X G z0, PySem.W.mg_none_of X G z1, PySem.W.mg_none_of X G z2, PySem.W.mg_none_of X G z3, PySem.W.mg_none_of X G z4, PySem.W.mg_none_of X G z5, PySem.W.mg_none_of X G z6, PySem.W.mg_none_of X G z7, PySem.W.mg_none_of X G z8, PySem.W.mg_none_of X G z9, PySem.W.mg_none_of X G z10, PySem.W.mg_none_of X G z11, PySem.W.mg_none_of X G z12, PySem.W.mg_none_of X G z13, PySem.W.mg_none_of X G z14, PySem.W.mg_none_of X G z15⟩
  exact ⟨PySem.W.fnOf "law" "law" (defArgs s_law) (defBody s_law) (defScope s_law) .none kV32 dc32 pm32 an32 cd32 ct32, fun s v => .of_eq rfl, fun base _ _ => ok_law ⟨T, ⟨g_SORTS, I_SORTS, g_MOST_OF, I_MOST_OF, g_MOST_WITHIN⟩, ⟨g_MOST_PLACES, g_MOST_NUMBER, g_MOST_ROOM, g_MOST_LATE, g_MOST_WAY⟩, ⟨g_MOST_ASKED, g_MOST_LENGTH, g_MOST_ROWS⟩, g_MOST_WEIGHT, ⟨KC_House.cl, nat_House_places, nat_House_room, nat_House_late, nat_House_most⟩, KC_House, D_House___init__, D_is_guesser, D_need_guesser, D_need_setting, D_need_weights, D_need_rows, D_laid, D_come, D_asked, D_started, D_strided, D_paired, D_stepped, D_gone_on, D_first_state, D_begun, D_turn_cost, D_both_behind, D_idle_in⟩ D_worst D__law_taken D__law_alike D__law_guesser D__law_setting D__law_guessed D__law_laid D__law_asked D__law_run D__law_counts D__law_cost D__law_weights D__law_rows D__law_worst (fun_mk (st := s_law) l32 c32 k32)⟩
end St
open PySem PySem.W PyProof.Rows
set_option maxHeartbeats 0 in
theorem PySem.Challenge.cw_stridewell_k07_whole_the_worst_row_holds : PySem.Challenge.rw_stridewell_k07_whole_the_worst_row.Holds := by
  w_on; o_law; k_head; (case hw => w_witness2)
  k_fill
  refine L2.walk_of (l := PySem.Challenge.rw_stridewell_k07_whole_the_worst_row) (n := 63) (k := 11) (x := "_law_script") (CX := fun _ => L2.CX0) (sp := fun w => St.spLaw _) rfl (by decide) rfl ⟨rfl, by decide, by decide⟩ (fun w h Y => PySem.W.kIn_of Y) ?F (fun _ _ a ns hl hO hS => ⟨a, ns, rfl, St.Sc.of hO hS, fun _ => rfl⟩) (fun _ _ _ _ _ h => h)
  case F =>
    intro w mg fa h KX G hmg
    refine' St.all_mk KX G hmg ?a0 ?l0 ?c0 ?k0 ?a1 ?l1 ?c1 ?k1 ?a2 ?l2 ?c2 ?k2 ?a3 ?l3 ?c3 ?k3 ?a4 ?l4 ?c4 ?k4 ?a5 ?l5 ?c5 ?k5 ?a6 ?l6 ?c6 ?k6 ?a7 ?l7 ?c7 ?k7 ?a8 ?l8 ?c8 ?k8 ?a9 ?l9 ?c9 ?k9 ?a10 ?l10 ?c10 ?k10 ?a11 ?l11 ?c11 ?k11 ?a12 ?l12 ?c12 ?k12 ?a13 ?l13 ?c13 ?k13 ?a14 ?l14 ?c14 ?k14 ?a15 ?l15 ?c15 ?k15 ?a16 ?l16 ?c16 ?k16 ?a17 ?l17 ?c17 ?k17 ?a18 ?l18 ?c18 ?k18 ?a19 ?l19 ?c19 ?k19 ?a20 ?l20 ?c20 ?k20 ?a21 ?l21 ?c21 ?k21 ?a22 ?l22 ?c22 ?k22 ?a23 ?l23 ?c23 ?k23 ?a24 ?l24 ?c24 ?k24 ?a25 ?l25 ?c25 ?k25 ?a26 ?l26 ?c26 ?k26 ?a27 ?l27 ?c27 ?k27 ?a28 ?l28 ?c28 ?k28 ?a29 ?l29 ?c29 ?k29 ?a30 ?l30 ?c30 ?k30 ?a31 ?l31 ?c31 ?k31 ?a32 ?l32 ?c32 ?k32 ?aC0 ?pgC0 ?hdC0 ?poC0 ?saC0 ?mkC0 ?kcC0 ?nat_House_places ?nat_House_room ?nat_House_late ?nat_House_most ?am0 ?im0 ?lm0 ?cm0 ?km0 ?ad0 ?ld0 ?lo0 ?li0 ?ee0 ?ad1 ?ld1 ?lo1 ?li1 ?ee1 ?ai0 ?ai1 ?ai2 ?ai3 ?ai4 ?ai5 ?ai6 ?ai7 ?ai8 ?ai9 ?z0 ?z1 ?z2 ?z3 ?z4 ?z5 ?z6 ?z7 ?z8 ?z9 ?z10 ?z11 ?z12 ?z13 ?z14 ?z15
    (case a0 => k_is); (case l0 => k_is); (case c0 => k_is); (case k0 => k_is); (case a1 => k_is); (case l1 => k_is)
    (case c1 => k_is); (case k1 => k_is); (case a2 => k_is); (case l2 => k_is); (case c2 => k_is); (case k2 => k_is)
    (case a3 => k_is); (case l3 => k_is); (case c3 => k_is); (case k3 => k_is); (case a4 => k_is); (case l4 => k_is)
    (case c4 => k_is); (case k4 => k_is); (case a5 => k_is); (case l5 => k_is); (case c5 => k_is); (case k5 => k_is)
    (case a6 => k_is); (case l6 => k_is); (case c6 => k_is); (case k6 => k_is); (case a7 => k_is); (case l7 => k_is)
    (case c7 => k_is); (case k7 => k_is); (case a8 => k_is); (case l8 => k_is); (case c8 => k_is); (case k8 => k_is)
    (case a9 => k_is); (case l9 => k_is); (case c9 => k_is); (case k9 => k_is); (case a10 => k_is); (case l10 => k_is)
    (case c10 => k_is); (case k10 => k_is); (case a11 => k_is); (case l11 => k_is); (case c11 => k_is); (case k11 => k_is)
    (case a12 => k_is); (case l12 => k_is); (case c12 => k_is); (case k12 => k_is); (case a13 => k_is); (case l13 => k_is)
    (case c13 => k_is); (case k13 => k_is); (case a14 => k_is); (case l14 => k_is); (case c14 => k_is); (case k14 => k_is)
    (case a15 => k_is); (case l15 => k_is); (case c15 => k_is); (case k15 => k_is); (case a16 => k_is); (case l16 => k_is)
    (case c16 => k_is); (case k16 => k_is); (case a17 => k_is); (case l17 => k_is); (case c17 => k_is); (case k17 => k_is)
    (case a18 => k_is); (case l18 => k_is); (case c18 => k_is); (case k18 => k_is); (case a19 => k_is); (case l19 => k_is)
    (case c19 => k_is); (case k19 => k_is); (case a20 => k_is); (case l20 => k_is); (case c20 => k_is); (case k20 => k_is)
    (case a21 => k_is); (case l21 => k_is); (case c21 => k_is); (case k21 => k_is); (case a22 => k_is); (case l22 => k_is)
    (case c22 => k_is); (case k22 => k_is); (case a23 => k_is); (case l23 => k_is); (case c23 => k_is); (case k23 => k_is)
    (case a24 => k_is); (case l24 => k_is); (case c24 => k_is); (case k24 => k_is); (case a25 => k_is); (case l25 => k_is)
    (case c25 => k_is); (case k25 => k_is); (case a26 => k_is); (case l26 => k_is); (case c26 => k_is); (case k26 => k_is)
    (case a27 => k_is); (case l27 => k_is); (case c27 => k_is); (case k27 => k_is); (case a28 => k_is); (case l28 => k_is)
    (case c28 => k_is); (case k28 => k_is); (case a29 => k_is); (case l29 => k_is); (case c29 => k_is); (case k29 => k_is)
    (case a30 => k_is); (case l30 => k_is); (case c30 => k_is); (case k30 => k_is); (case a31 => k_is); (case l31 => k_is)
    (case c31 => k_is); (case k31 => k_is); (case a32 => k_is); (case l32 => k_is); (case c32 => k_is); (case k32 => k_is)
    (case aC0 => k_is); (case pgC0 => k_is); (case hdC0 => k_is); (case poC0 => k_is); (case saC0 => k_is); (case mkC0 => k_is)
    (case kcC0 => k_is); (case nat_House_places => k_is); (case nat_House_room => k_is); (case nat_House_late => k_is); (case nat_House_most => k_is); (case am0 => k_is)
    (case im0 => k_is); (case lm0 => k_is); (case cm0 => k_is); (case km0 => k_is); (case ad0 => k_is); (case ld0 => k_is)
    (case lo0 => decide); (case li0 => exact ⟨⟨_, _, rfl, rfl⟩, ⟨_, _, rfl, rfl⟩, ⟨_, _, rfl, rfl⟩, ⟨_, _, rfl, rfl⟩, ⟨_, _, rfl, rfl⟩, True.intro⟩); (case ee0 => exact ⟨_, _, _, _, _, _, _, _, _, _, rfl⟩); (case ad1 => k_is); (case ld1 => k_is); (case lo1 => decide)
    (case li1 => exact ⟨⟨_, _, rfl, rfl⟩, ⟨_, _, rfl, rfl⟩, ⟨_, _, rfl, rfl⟩, True.intro⟩); (case ee1 => exact ⟨_, _, _, _, _, _, rfl⟩); (case ai0 => k_is); (case ai1 => k_is); (case ai2 => k_is); (case ai3 => k_is)
    (case ai4 => k_is); (case ai5 => k_is); (case ai6 => k_is); (case ai7 => k_is); (case ai8 => k_is); (case ai9 => k_is)
    (case z0 => k_is); (case z1 => k_is); (case z2 => k_is); (case z3 => k_is); (case z4 => k_is); (case z5 => k_is)
    (case z6 => k_is); (case z7 => k_is); (case z8 => k_is); (case z9 => k_is); (case z10 => k_is); (case z11 => k_is)
    (case z12 => k_is); (case z13 => k_is); (case z14 => k_is); (case z15 => k_is)

