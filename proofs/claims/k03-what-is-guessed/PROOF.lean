import PyProof.Rows.All
import Wide.All
import OpenK.AllK
import Wide.FinOn
import HandS.ForMost
import HandS.IsInst
import HandS.RaiseMore
import HandS.More
import HandS.Evl
import KE.KDictPairs
import HandS.DictTup
import HandS.SortOrd
import HandS.SortRule
import PySem.Challenge.RW_stridewell_k03_whole_what_is_guessed
set_option Elab.async false
set_option linter.all false
set_option maxRecDepth 100000
set_option maxHeartbeats 0
namespace St
open PySem PySem.Spec PyProof.Rows L2
/-! ### a def of the text with its name and how its arguments bind -/
structure Df (K : PySem.W.Frag) (mg : Str → Option Value) (x : Str) (st : Stmt) (ps : List Str) (f : Addr) (fd : FuncData) : Prop where
  F : Fun K x x st f fd
  m : mg x = some (.ref f)
  b : Binds K fd ps []
/-- the built-ins' names are free -/
structure Nms (mg : Str → Option Value) : Prop where
  n_len : mg "len" = none
  n_range : mg "range" = none
  n_int : mg "int" = none
  n_str : mg "str" = none
  n_bool : mg "bool" = none
  n_tuple : mg "tuple" = none
  n_list : mg "list" = none
  n_isinstance : mg "isinstance" = none
  n_max : mg "max" = none
  n_min : mg "min" = none
  n_sum : mg "sum" = none
  n_sorted : mg "sorted" = none
  n_dict : mg "dict" = none
  n_set : mg "set" = none
  n_zip : mg "zip" = none
  n_enumerate : mg "enumerate" = none
/-! ### heaps -/
theorem same_upd {H : Hp} {p : Addr} {o : HO} (h : H p = none) : Same H (upd H p o) := fun b x e => by
  rw [upd_ne (ne_of_none e h)]
  exact e
/-- an object that H does not know may change -/
theorem same_mut {H H' : Hp} {p : Addr} {o : HO} (e : Same H H') (h : H p = none) : Same H (upd H' p o) := fun a u ha => by
  rw [upd_ne (ne_of_none ha h)]
  exact e a u ha
theorem same_rd {H H' : Hp} {a : Addr} {u : HO} (e : Same H H') (h : Rd H a u) : Rd H' a u := by
  rcases h with h | ⟨o, h⟩
  · exact Or.inl (e a _ h)
  · exact Or.inr ⟨o, e a _ h⟩
theorem same_t {K : PySem.W.Frag} {H H' : Hp} {a : Addr} {xs : List V} (e : Same H H') (h : SqT K H a xs) : SqT K H' a xs := by
  rcases h with h | h
  · exact Or.inl (same_rd e h)
  · exact Or.inr h
theorem same_l {K : PySem.W.Frag} {H H' : Hp} {a : Addr} {xs : List V} (e : Same H H') (h : SqL K H a xs) : SqL K H' a xs := e.seq h
theorem sql {K : PySem.W.Frag} {H : Hp} {a : Addr} {xs : List V} (h : H a = some (.lst xs)) : SqL K H a xs := Or.inl (Or.inl h)
theorem sqt {K : PySem.W.Frag} {H : Hp} {a : Addr} {xs : List V} (h : H a = some (.tup xs)) : SqT K H a xs := Or.inl (Or.inl h)
theorem sz {n : Nat} (h : n ≤ 1000000) : n ≤ sizeLine := Nat.le_trans h (by decide)
theorem szl {n : Nat} (h : n < 1000000) : n < sizeLine := Nat.lt_of_lt_of_le h (by decide)
theorem sz_1 {a0 : V} : [a0].length ≤ sizeLine := by show 1 ≤ sizeLine; decide
theorem sz_2 {a0 a1 : V} : [a0, a1].length ≤ sizeLine := by show 2 ≤ sizeLine; decide
theorem sz_3 {a0 a1 a2 : V} : [a0, a1, a2].length ≤ sizeLine := by show 3 ≤ sizeLine; decide
theorem sz_4 {a0 a1 a2 a3 : V} : [a0, a1, a2, a3].length ≤ sizeLine := by show 4 ≤ sizeLine; decide
theorem sz_5 {a0 a1 a2 a3 a4 : V} : [a0, a1, a2, a3, a4].length ≤ sizeLine := by show 5 ≤ sizeLine; decide
theorem sz_6 {a0 a1 a2 a3 a4 a5 : V} : [a0, a1, a2, a3, a4, a5].length ≤ sizeLine := by show 6 ≤ sizeLine; decide
theorem sz_7 {a0 a1 a2 a3 a4 a5 a6 : V} : [a0, a1, a2, a3, a4, a5, a6].length ≤ sizeLine := by show 7 ≤ sizeLine; decide
theorem sz_8 {a0 a1 a2 a3 a4 a5 a6 a7 : V} : [a0, a1, a2, a3, a4, a5, a6, a7].length ≤ sizeLine := by show 8 ≤ sizeLine; decide
/-- all but r is as it was -/
def SameX (r : Addr) (H H' : Hp) : Prop := ∀ b o, b ≠ r → H b = some o → H' b = some o
theorem SameX.refl (r : Addr) (H : Hp) : SameX r H H := fun _ _ _ h => h
theorem SameX.trans {r : Addr} {H H1 H2 : Hp} (a : SameX r H H1) (b : SameX r H1 H2) : SameX r H H2 := fun c o n h => b c o n (a c o n h)
theorem SameX.of {r : Addr} {H H' : Hp} (a : Same H H') : SameX r H H' := fun c o _ h => a c o h
theorem SameX.upd {r : Addr} {H : Hp} {o : HO} : SameX r H (upd H r o) := fun c u n h => by
  rw [upd_ne n]
  exact h
theorem SameX.rd {r : Addr} {H H' : Hp} {a : Addr} {u : HO} (e : SameX r H H') (n : a ≠ r) (h : Rd H a u) : Rd H' a u := by
  rcases h with h | ⟨o, h⟩
  · exact Or.inl (e a _ n h)
  · exact Or.inr ⟨o, e a _ n h⟩
/-- r is a list: no tuple lies there -/
def LstAt (H : Hp) (r : Addr) : Prop := ∃ xs, H r = some (.lst xs)
theorem ne_tup {H : Hp} {a r : Addr} {xs : List V} (h : Rd H a (.tup xs)) (l : LstAt H r) : a ≠ r := by
  obtain ⟨ys, l⟩ := l
  intro e
  subst e
  rcases h with h | ⟨o, h⟩
  · rw [l] at h; cases h
  · rw [l] at h; cases h
theorem SameX.t {K : PySem.W.Frag} {r : Addr} {H H' : Hp} {a : Addr} {xs : List V} (e : SameX r H H') (l : LstAt H r) (h : SqT K H a xs) : SqT K H' a xs := by
  rcases h with h | h
  · exact Or.inl (e.rd (ne_tup h l) h)
  · exact Or.inr h
/-! ### kinds of values -/
theorem tyx_T {K : PySem.W.Frag} {H : Hp} {a : Addr} {xs : List V} (h : SqT K H a xs) : TyX K H (.ref a) (.type "tuple") := by
  rcases h with (h | ⟨o, h⟩) | ⟨o, its, n, h, c, _⟩
  · exact .base (.tup h)
  · exact .fTuple h
  · exact .kTuple h c
theorem tyx_L {K : PySem.W.Frag} {H : Hp} {a : Addr} {xs : List V} (h : SqL K H a xs) : TyX K H (.ref a) (.type "list") := by
  rcases h with (h | ⟨o, h⟩) | ⟨o, its, n, h, c, _⟩
  · exact .base (.lst h)
  · exact .base (.frz h)
  · exact .kList h c
/-! ### guessers -/
inductive G where
  | nil
  | leaf (w : Str) (ns : List Int)
  | b1 (a : G)
  | both (a b : G)
  | b3 (a b c : G)
def IsG (K : PySem.W.Frag) (H : Hp) : G → V → Prop
  | .nil, v => ∃ p, v = .ref p ∧ SqT K H p []
  | .leaf w ns, v => ∃ p, v = .ref p ∧ SqT K H p (.str w :: ns.map V.int)
  | .b1 a, v => ∃ p x, v = .ref p ∧ SqT K H p [.str "both", x] ∧ IsG K H a x
  | .both a b, v => ∃ p x y, v = .ref p ∧ SqT K H p [.str "both", x, y] ∧ IsG K H a x ∧ IsG K H b y
  | .b3 a b c, v => ∃ p x y z, v = .ref p ∧ SqT K H p [.str "both", x, y, z] ∧ IsG K H a x ∧ IsG K H b y ∧ IsG K H c z
theorem IsG.mono {K : PySem.W.Frag} {H H' : Hp} (f : ∀ a xs, SqT K H a xs → SqT K H' a xs) : ∀ {g : G} {v : V}, IsG K H g v → IsG K H' g v
  | .nil, _, ⟨p, e, h⟩ => ⟨p, e, f _ _ h⟩
  | .leaf _ _, _, ⟨p, e, h⟩ => ⟨p, e, f _ _ h⟩
  | .b1 _, _, ⟨p, x, e, h, ha⟩ => ⟨p, x, e, f _ _ h, ha.mono f⟩
  | .both _ _, _, ⟨p, x, y, e, h, ha, hb⟩ => ⟨p, x, y, e, f _ _ h, ha.mono f, hb.mono f⟩
  | .b3 _ _ _, _, ⟨p, x, y, z, e, h, ha, hb, hc⟩ => ⟨p, x, y, z, e, f _ _ h, ha.mono f, hb.mono f, hc.mono f⟩
theorem IsG.same {K : PySem.W.Frag} {H H' : Hp} {g : G} {v : V} (h : IsG K H g v) (e : Same H H') : IsG K H' g v := h.mono fun _ _ => same_t e
theorem IsG.sameX {K : PySem.W.Frag} {H H' : Hp} {g : G} {v : V} {r : Addr} (h : IsG K H g v) (e : SameX r H H') (l : LstAt H r) : IsG K H' g v := h.mono fun _ _ => e.t l
/-- a word's length; how great its number may be -/
def sortsL : List (Str × Int) := [("none", 1), ("next", 2), ("stride", 2), ("pairs", 2), ("both", 3)]
def mostL : List (Str × Int) := [("next", 3), ("stride", 3), ("pairs", 2)]
/-- the words of the leaves are not both -/
def WfG : G → Prop
  | .nil => True
  | .leaf s _ => s ≠ ("both" : Str)
  | .b1 a => WfG a
  | .both a b => WfG a ∧ WfG b
  | .b3 a b c => WfG a ∧ WfG b ∧ WfG c
def numOk (s : Str) : List Int → Bool
  | [] => false
  | n :: _ => (match mostL.lookup s with
    | some m => decide (1 ≤ n) && decide (n ≤ m)
    | none => false)
/-- what is_guesser tells -/
def isG : Nat → G → Bool
  | _, .nil => false
  | w, .leaf s ns => (match sortsL.lookup s with
      | none => false
      | some k => decide (((ns.length : Nat) : Int) + 1 = k) && decide (w ≤ 3) && (decide (s = "none") || numOk s ns))
  | _, .b1 _ => false
  | w, .both a b => decide (w ≤ 3) && (isG (w + 1) a && isG (w + 1) b)
  | _, .b3 _ _ _ => false
/-- a guesser, w bothes left -/
def good : Nat → G → Bool
  | _, .nil => false
  | _, .leaf w ns => decide (w = "none" ∧ ns = []) || (match ns with
      | [n] => decide ((w = "next" ∧ 1 ≤ n ∧ n ≤ 3) ∨ (w = "stride" ∧ 1 ≤ n ∧ n ≤ 3) ∨ (w = "pairs" ∧ 1 ≤ n ∧ n ≤ 2))
      | _ => false)
  | _, .b1 _ => false
  | 0, .both _ _ => false
  | n + 1, .both a b => good n a && good n b
  | _, .b3 _ _ _ => false
/-! ### what the law draws from -/
/-- tuples and known things stay -/
structure Imm (H H' : Hp) : Prop where
  tup : ∀ b xs, H b = some (.tup xs) → H' b = some (.tup xs)
  frz : ∀ b o u, H b = some (.frz o u) → H' b = some (.frz o u)
theorem Imm.refl (H : Hp) : Imm H H := ⟨fun _ _ h => h, fun _ _ _ h => h⟩
theorem Imm.trans {H H1 H2 : Hp} (a : Imm H H1) (b : Imm H1 H2) : Imm H H2 := ⟨fun c xs h => b.tup c xs (a.tup c xs h), fun c o u h => b.frz c o u (a.frz c o u h)⟩
theorem Imm.same {H H' : Hp} (e : Same H H') : Imm H H' := ⟨fun c xs h => e c _ h, fun c o u h => e c _ h⟩
theorem Imm.sameX {r : Addr} {H H' : Hp} (e : SameX r H H') (l : LstAt H r) : Imm H H' := by
  obtain ⟨ys, l⟩ := l
  exact ⟨fun c xs h => e c _ (fun z => by subst z; rw [l] at h; cases h) h, fun c o u h => e c _ (fun z => by subst z; rw [l] at h; cases h) h⟩
theorem Imm.upd {r : Addr} {H : Hp} {o : HO} (l : LstAt H r) : Imm H (upd H r o) := Imm.sameX SameX.upd l
theorem Imm.t {K : PySem.W.Frag} {H H' : Hp} {a : Addr} {xs : List V} (e : Imm H H') (h : SqT K H a xs) : SqT K H' a xs := by
  rcases h with (h | ⟨o, h⟩) | h
  · exact .inl (.inl (e.tup _ _ h))
  · exact .inl (.inr ⟨o, e.frz _ _ _ h⟩)
  · exact .inr h
theorem IsG.imm {K : PySem.W.Frag} {H H' : Hp} {g : G} {v : V} (h : IsG K H g v) (e : Imm H H') : IsG K H' g v := h.mono fun _ _ => e.t
/-- the script: known to the object, or of the module -/
def Sc (K : PySem.W.Frag) (H : Hp) (a : Addr) (xs : List V) : Prop := (∃ o, H a = some (.frz o (.lst xs))) ∨
    ∃ (o : Obj) (its : Array Value) (n : Nat), K.lookup a = some o ∧ o.cls = .type "list" ∧ o.dict = none ∧ o.data = .seq its n ∧ its.size ≤ sizeLine ∧ Vals xs its.toList
theorem Sc.sql {K : PySem.W.Frag} {H : Hp} {a : Addr} {xs : List V} (h : Sc K H a xs) : SqL K H a xs := by
  rcases h with h | h
  · exact .inl (.inr h)
  · exact .inr h
theorem Sc.imm {K : PySem.W.Frag} {H H' : Hp} {a : Addr} {xs : List V} (h : Sc K H a xs) (e : Imm H H') : Sc K H' a xs := by
  rcases h with ⟨o, h⟩ | h
  · exact .inl ⟨o, e.frz _ _ _ h⟩
  · exact .inr h
theorem Sc.of {K : PySem.W.Frag} {H : Hp} {a : Addr} {xs : List V} (O : Only H) (h : SqL K H a xs) : Sc K H a xs := by
  rcases h with (h | h) | h
  · rcases O a with z | ⟨o, ys, z⟩
    · rw [z] at h; cases h
    · rw [z] at h; cases h
  · exact .inl h
  · exact .inr h
/-- the law's row: the script, the next place, the mixed number -/
def Row (K : PySem.W.Frag) (H : Hp) (r : Addr) : Prop := ∃ (sc : Addr) (ns : List Int) (i s : Int), H r = some (.lst [.ref sc, .int i, .int s]) ∧ Sc K H sc (ns.map V.int) ∧ 0 ≤ i
theorem Row.at_ {K : PySem.W.Frag} {H : Hp} {r : Addr} (h : Row K H r) : LstAt H r := by
  obtain ⟨sc, ns, i, s, h, _⟩ := h
  exact ⟨_, h⟩
theorem Row.imm {K : PySem.W.Frag} {H H' : Hp} {r : Addr} (h : Row K H r) (e : Imm H H') (er : H' r = H r) : Row K H' r := by
  obtain ⟨sc, ns, i, s, h, hs, h0⟩ := h
  exact ⟨sc, ns, i, s, er.trans h, hs.imm e, h0⟩
theorem Row.same {K : PySem.W.Frag} {H H' : Hp} {r : Addr} (h : Row K H r) (e : Same H H') : Row K H' r := by
  obtain ⟨sc, ns, i, s, h, hs, h0⟩ := h
  exact ⟨sc, ns, i, s, e _ _ h, hs.imm (Imm.same e), h0⟩
theorem Row.upd {K : PySem.W.Frag} {H : Hp} {r D : Addr} {o : HO} (h : Row K H r) (l : LstAt H D) (n : D ≠ r) : Row K (upd H D o) r := h.imm (Imm.upd l) (upd_ne n.symm)
/-- what a draw promises -/
def spTaken (K : PySem.W.Frag) : Sp := fun vs H Q _ => ∃ (r : Addr) (m : Int), vs = [.ref r, .int m] ∧ Row K H r ∧ 0 < m ∧
  ∀ (x : Int) H', 0 ≤ x → x < m → SameX r H H' → Row K H' r → Q (.int x) H'
end St
namespace St
open PySem PySem.Spec PyProof.Rows L2
/-- the law's own guessers: within w others -/
def spGuesser (K : PySem.W.Frag) (n : Nat) : Sp := fun vs H Q _ => ∃ (r : Addr) (w : Nat), vs = [.ref r, .int (w : Int)] ∧ w < n ∧ Row K H r ∧
  ∀ (g : G) (v : V) H', SameX r H H' → Row K H' r → IsG K H' g v → good w g = true → Q v H'
theorem fn_zero {P : Program} {w : World} {K : PySem.W.Frag} {mg : Str → Option Value} {base : Heap} {CX : CXT} {k : Nat} {f : Addr} {fd : FuncData} {ps : List Str} {sp : Sp} (no : ∀ vs H Q E, ¬ sp vs H Q E) : FnOk P w K mg base CX k f fd ps sp :=
  ⟨fun vs H Q E h => absurd h (no vs H Q E), fun A outer s H args us vs Q E _ _ _ _ h => absurd h (no vs H Q E)⟩
theorem good_none (w : Nat) : good w (.leaf "none" []) = true := by unfold good; simp
theorem good_next {w : Nat} {n : Int} (h1 : 1 ≤ n) (h2 : n ≤ 3) : good w (.leaf "next" [n]) = true := by unfold good; simp [h1, h2]
theorem good_stride {w : Nat} {n : Int} (h1 : 1 ≤ n) (h2 : n ≤ 3) : good w (.leaf "stride" [n]) = true := by unfold good; simp [h1, h2]
theorem good_pairs {w : Nat} {n : Int} (h1 : 1 ≤ n) (h2 : n ≤ 2) : good w (.leaf "pairs" [n]) = true := by unfold good; simp [h1, h2]
end St
namespace St
open PySem PySem.Spec PyProof.Rows L2
theorem Row.nr {K : PySem.W.Frag} {H : Hp} {r p : Addr} (h : Row K H r) (np : H p = none) : p ≠ r := by
  obtain ⟨ys, hy⟩ := h.at_
  exact (ne_of_none hy np).symm
end St

/-! ### written dicts of numbers by texts -/
namespace St
open PySem PySem.Spec PyProof.Rows L2
def EntIs (p : Value × Value) (kv : Str × Int) : Prop := (∃ t, p.1 = .str kv.1 t) ∧ ∃ t, p.2 = .int kv.2 t
structure IDict (K : PySem.W.Frag) (w : World) (d : Addr) (kvs : List (Str × Int)) : Prop where
  ex : ∃ es n, KDict K w d es n ∧ Paired EntIs (es.toList.map fun e => (e.key, e.val)) kvs
theorem isStr_str (x z : Str) (t : Tok) : (Value.str x t).isStr z = (z == x) := by
  show (x == z) = (z == x)
  by_cases e : x = z
  · subst e; rfl
  · rw [beq_eq_false_iff_ne.mpr e, beq_eq_false_iff_ne.mpr (Ne.symm e)]
theorem find_ent (z : Str) : ∀ {es : List DictEntry} {kvs : List (Str × Int)}, Paired EntIs (es.map fun e => (e.key, e.val)) kvs →
    (kvs.lookup z = none ∧ es.find? (·.key.isStr z) = none ∧ es.any (·.refKey) = false) ∨ ∃ e n t, kvs.lookup z = some n ∧ es.find? (·.key.isStr z) = some e ∧ e.val = .int n t
  | [], [], .nil => .inl ⟨rfl, rfl, rfl⟩
  | e :: es, (k, n) :: kvs, .cons ⟨⟨t, h1⟩, ⟨t2, h2⟩⟩ r => by
    simp only at h1 h2
    by_cases c : z = k
    · subst c
      refine .inr ⟨e, n, t2, by simp [List.lookup], ?_, h2⟩
      rw [List.find?_cons, h1, isStr_str]
      simp
    · have c1 : (z == k) = false := beq_eq_false_iff_ne.mpr c
      rcases find_ent z r with ⟨a, b, d⟩ | ⟨e', n', t', a, b, d⟩
      · refine .inl ⟨by simp [List.lookup, c1, a], ?_, ?_⟩
        · rw [List.find?_cons, h1, isStr_str, c1]; exact b
        · rw [List.any_cons, d]
          have : e.refKey = false := by unfold DictEntry.refKey; rw [h1] <;> rfl
          rw [this]; rfl
      · refine .inr ⟨e', n', t', by simp [List.lookup, c1, a], ?_, d⟩
        rw [List.find?_cons, h1, isStr_str, c1]; exact b
theorem IDict.ns {K : PySem.W.Frag} {w : World} {d : Addr} {kvs : List (Str × Int)} (D : IDict K w d kvs) (z : Str) :
    (kvs.lookup z = none ∧ PySem.W.nsIn K d z = some none) ∨ ∃ n t, kvs.lookup z = some n ∧ PySem.W.nsIn K d z = some (some (.int n t)) := by
  obtain ⟨es, n, D, p⟩ := D.ex
  unfold PySem.W.nsIn
  rw [D.at_]
  rcases find_ent z p with ⟨a, b, c⟩ | ⟨e, n', t, a, b, c⟩
  · refine .inl ⟨a, ?_⟩
    simp only [b, c]
    rfl
  · refine .inr ⟨n', t, a, ?_⟩
    simp only [b, c]
section
variable {X : Cx} {d : Addr} {kvs : List (Str × Int)}
def rInI (d : Addr) (kvs : List (Str × Int)) : R2 := fun x y H Q => ∃ z, x = .str z ∧ y = .ref d ∧ Q (.bl (kvs.lookup z).isSome) H
def rNotInI (d : Addr) (kvs : List (Str × Int)) : R2 := fun x y H Q => ∃ z, x = .str z ∧ y = .ref d ∧ Q (.bl (!(kvs.lookup z).isSome)) H
def rIxI (d : Addr) (kvs : List (Str × Int)) : R2 := fun x y H Q => ∃ z n, x = .ref d ∧ y = .str z ∧ kvs.lookup z = some n ∧ Q (.int n) H
theorem op_in_id (D : IDict X.K X.w d kvs) : OpR X (compareOp .In) (rInI d kvs) := by
  obtain ⟨es, n, KD, _⟩ := D.ex
  intro pins s σ H x y v u Q I rx ry ⟨z, h1, h2, q⟩
  rcases D.ns z with ⟨a, b⟩ | ⟨m, t, a, b⟩
  · rw [a] at q
    exact op_in_kd KD pins s σ H x y v u Q I rx ry ⟨z, _, h1, h2, b, q⟩
  · rw [a] at q
    exact op_in_kd KD pins s σ H x y v u Q I rx ry ⟨z, _, h1, h2, b, q⟩
theorem op_notIn_id (D : IDict X.K X.w d kvs) : OpR X (compareOp .NotIn) (rNotInI d kvs) := by
  obtain ⟨es, n, KD, _⟩ := D.ex
  intro pins s σ H x y v u Q I rx ry ⟨z, h1, h2, q⟩
  rcases D.ns z with ⟨a, b⟩ | ⟨m, t, a, b⟩
  · rw [a] at q
    exact op_notIn_kd KD pins s σ H x y v u Q I rx ry ⟨z, _, h1, h2, b, q⟩
  · rw [a] at q
    exact op_notIn_kd KD pins s σ H x y v u Q I rx ry ⟨z, _, h1, h2, b, q⟩
theorem ix_id (D : IDict X.K X.w d kvs) : IxR X (rIxI d kvs) := by
  obtain ⟨es, nn, KD, _⟩ := D.ex
  intro value slice pins s σ H x y v u Q I rx ry ⟨z, m, h1, h2, h3, q⟩ hs
  rcases D.ns z with ⟨a, b⟩ | ⟨m', t, a, b⟩
  · rw [a] at h3; cases h3
  · rw [a] at h3; cases h3
    exact ix_kdict value slice pins s σ H x y v u Q I rx ry ⟨d, z, .int m, h1, h2, ⟨es, nn, _, KD.at_, KD.lit, b, ⟨t, rfl⟩⟩, q⟩ hs
end
theorem iteY {c A B : Prop} [Decidable c] (h : c) (a : A) : if c then A else B := by rw [if_pos h]; exact a
theorem iteN {c A B : Prop} [Decidable c] (h : ¬ c) (b : B) : if c then A else B := by rw [if_neg h]; exact b
theorem iteB {b : Bool} {A B : Prop} (e : b = true) (a : A) : if b = true then A else B := by rw [if_pos e]; exact a
theorem iteB0 {b : Bool} {A B : Prop} (e : b = false) (a : B) : if b = true then A else B := by rw [e, if_neg Bool.false_ne_true]; exact a
/-- the guessers' tables -/
structure Tab (K : PySem.W.Frag) (w : World) (mg : Str → Option Value) (dS dM : Addr) : Prop where
  g_SORTS : mg "SORTS" = some (.ref dS)
  i_SORTS : IDict K w dS sortsL
  g_MOST_OF : mg "MOST_OF" = some (.ref dM)
  i_MOST_OF : IDict K w dM mostL
  g_MOST_WITHIN : ∃ t, mg "MOST_WITHIN" = some (.int 3 t)
def spIs (K : PySem.W.Frag) (n : Nat) : Sp := fun vs H Q _ => ∃ (v : V) (g : G) (w : Nat), vs = [v, .int (w : Int)] ∧ IsG K H g v ∧ WfG g ∧ w ≤ 4 ∧ 5 ≤ w + n ∧ ∀ H', Same H H' → Q (.bl (isG w g)) H'
end St
namespace St
open PySem PySem.Spec PyProof.Rows L2
section
variable {X : Cx}
theorem pe_gref {x : Str} {a : Addr} {pos : Pos} (hg : Gl X x) (hm : X.mg x = some (.ref a)) (hd : (x == ("__debug__" : Str)) = false := by decide) : PE X (.Name x pos) (tC (.ref a)) := pe_glob hg hm (v := .ref a) rfl hd
theorem pe_gint {x : Str} {i : Int} {pos : Pos} (hg : Gl X x) (hm : ∃ t, X.mg x = some (.int i t)) (hd : (x == ("__debug__" : Str)) = false := by decide) : PE X (.Name x pos) (tC (.int i)) := by
  obtain ⟨t, hm⟩ := hm
  exact pe_glob hg hm (v := .int i) ⟨t, rfl⟩ hd
theorem pe_gstr {x : Str} {i : Str} {pos : Pos} (hg : Gl X x) (hm : ∃ t, X.mg x = some (.str i t)) (hd : (x == ("__debug__" : Str)) = false := by decide) : PE X (.Name x pos) (tC (.str i)) := by
  obtain ⟨t, hm⟩ := hm
  exact pe_glob hg hm (v := .str i) ⟨t, rfl⟩ hd
end
end St
namespace St
open PySem PySem.Spec PyProof.Rows L2
theorem sorts_cases {z : Str} {k : Int} (h : sortsL.lookup z = some k) : (z = "none" ∧ k = 1) ∨ (z = "next" ∧ k = 2) ∨ (z = "stride" ∧ k = 2) ∨ (z = "pairs" ∧ k = 2) ∨ (z = "both" ∧ k = 3) := by
  unfold sortsL at h
  simp only [List.lookup] at h
  repeat' split at h
  all_goals first | (cases h; done) | skip
  all_goals (rename_i e; have e' := eq_of_beq e; cases h; simp [e'])
theorem sorts_most {z : Str} {k : Int} (h : sortsL.lookup z = some k) (h1 : z ≠ ("none" : Str)) (h2 : z ≠ ("both" : Str)) : k = 2 ∧ ∃ m, mostL.lookup z = some m := by
  rcases sorts_cases h with ⟨e, _⟩ | ⟨rfl, e⟩ | ⟨rfl, e⟩ | ⟨rfl, e⟩ | ⟨e, _⟩
  · exact absurd e h1
  · exact ⟨e, 3, rfl⟩
  · exact ⟨e, 3, rfl⟩
  · exact ⟨e, 2, rfl⟩
  · exact absurd e h2
end St
/-! ### data of any depth -/
namespace St
open PySem PySem.Spec PyProof.Rows L2
theorem dmono {K : PySem.W.Frag} {H H' : Hp} (fL : ∀ a xs, SqL K H a xs → SqL K H' a xs) (fT : ∀ a xs, SqT K H a xs → SqT K H' a xs) {v : V} {d : PyData} (h : Dp K H v d) : Dp K H' v d := by
  refine Dp.rec (motive_1 := fun v d _ => Dp K H' v d) (motive_2 := fun vs ds _ => DpAll K H' vs ds) ?_ ?_ ?_ ?_ ?_ ?_ ?_ ?_ h
  · exact .non
  · exact fun b => .bl b
  · exact fun i => .int i
  · exact fun x => .str x
  · exact fun h _ ih => .lst (fL _ _ h) ih
  · exact fun h _ ih => .tup (fT _ _ h) ih
  · exact .nil
  · exact fun _ _ a b => .cons a b
theorem dsame {K : PySem.W.Frag} {H H' : Hp} {v : V} {d : PyData} (h : Dp K H v d) (e : Same H H') : Dp K H' v d := dmono (fun _ _ => same_l e) (fun _ _ => same_t e) h
theorem dsameA {K : PySem.W.Frag} {H H' : Hp} (e : Same H H') : ∀ {vs : List V} {ds : List PyData}, DpAll K H vs ds → DpAll K H' vs ds
  | _, _, .nil => .nil
  | _, _, .cons a b => .cons (dsame a e) (dsameA e b)
theorem dlen {K : PySem.W.Frag} {H : Hp} : ∀ {vs : List V} {ds : List PyData}, DpAll K H vs ds → vs.length = ds.length
  | _, _, .nil => rfl
  | _, _, .cons _ b => congrArg (· + 1) (dlen b)
theorem dat {K : PySem.W.Frag} {H : Hp} : ∀ {vs : List V} {ds : List PyData} {i : Nat} {d : PyData}, DpAll K H vs ds → ds[i]? = some d → ∃ v, vs[i]? = some v ∧ Dp K H v d
  | _, _, 0, _, .cons a _, e => ⟨_, rfl, by cases Option.some.inj e; exact a⟩
  | _, _, i + 1, _, .cons _ b, e => dat (i := i) b e
/-- how deep -/
def dep : Nat → PyData → Prop
  | 0, _ => False
  | n + 1, .list ds => ds.length ≤ 100000 ∧ ∀ d ∈ ds, dep n d
  | n + 1, .tuple ds => ds.length ≤ 100000 ∧ ∀ d ∈ ds, dep n d
  | _ + 1, _ => True
def spAlike (K : PySem.W.Frag) (n : Nat) : Sp := fun vs H Q _ => ∃ (v1 v2 : V) (d : PyData), vs = [v1, v2] ∧ Dp K H v1 d ∧ Dp K H v2 d ∧ dep n d ∧ ∀ H', Same H H' → Q (.bl true) H'
theorem tup_list {K : PySem.W.Frag} {T : String} (h : T = "tuple" ∨ T = "list") : PySem.W.kitAny K (.type T) [.type "tuple", .type "list"] = some true := by
  rcases h with rfl | rfl
  · exact kitAny_cons (kit_ty (r := true) (by decide +kernel)) (fun h => nomatch h) fun _ => rfl
  · exact kitAny_cons (kit_ty (r := false) (by decide +kernel)) (fun _ => kitAny_cons (kit_ty (r := true) (by decide +kernel)) (fun h => nomatch h) fun _ => rfl) fun h => nomatch h
end St
/-! ### rules for within a comprehension: the frag is told -/
namespace St
open PySem PySem.Spec PyProof.Rows L2
section
variable {X : Cx} {K : PySem.W.Frag}
theorem ix_listK (h : X.K = K := by rfl) : IxR X (rIxL K) := h ▸ ix_list
theorem ix_tupK (h : X.K = K := by rfl) : IxR X (rIxT K) := h ▸ ix_tup
theorem ix_seqK (h : X.K = K := by rfl) : IxR X (rIx K) := h ▸ ix_seq
def rLen (K : PySem.W.Frag) : List V → Hp → VK → Prop := fun xs H Q => ∃ p ys, xs = [.ref p] ∧ (SqL K H p ys ∨ SqT K H p ys) ∧ Q (.int ys.length) H
theorem call_lenK (h : X.K = K := by rfl) : CallR X (.builtin "len") (rLen K) := h ▸ call_len_seq
theorem in_seqK (h : X.K = K := by rfl) : OpR X (compareOp .In) (rIn K false) := h ▸ op_in_seq
theorem notIn_seqK (h : X.K = K := by rfl) : OpR X (compareOp .NotIn) (rIn K true) := h ▸ op_notIn_seq
end
end St

local macro_rules
  | `(tactic| infer_instance) => `(tactic| first
    | assumption
    | exact L2.upd_same
    | (refine St.same_upd (by assumption) _ _ ?_; infer_instance)
    | (refine (show L2.Same _ _ by assumption) _ _ ?_; infer_instance)
    | (refine (show St.SameX _ _ _ by assumption) _ _ (by assumption) ?_; infer_instance)
    | (refine Or.inl (Or.inl ?_); infer_instance))
local macro_rules
  | `(tactic| and_intros) => `(tactic| repeat (first
    | refine ⟨_, rfl, ?_⟩
    | refine ⟨rfl, ?_⟩
    | refine ⟨_, _, rfl, rfl, ?_⟩
    | refine ⟨_, _, _, _, rfl, rfl, (by infer_instance), (by first | rfl | exact L2.atI_nat (j := 0) rfl | exact L2.atI_nat (j := 1) rfl | exact L2.atI_nat (j := 2) rfl), ?_⟩
    | refine ⟨_, _, rfl, (by first | (refine Or.inl ?_; infer_instance) | (refine Or.inr ?_; infer_instance)), ?_⟩
    | refine ⟨_, _, rfl, (show L2.SqL _ _ _ _ by infer_instance), ?_⟩
    | refine ⟨_, _, _, _, true, rfl, L2.ClsV.ty _, (by assumption), L2.kit_ty (by decide +kernel), ?_⟩
    | refine ⟨_, _, _, _, false, rfl, L2.ClsV.ty _, (by assumption), L2.kit_ty (by decide +kernel), ?_⟩
    | refine And.intro (by first | decide | exact St.sz_1 | exact St.sz_2 | exact St.sz_3 | exact St.sz_4 | exact St.sz_5 | exact St.sz_6 | exact St.sz_7 | exact St.sz_8 | assumption | omega | (refine Or.inr ?_; decide) | (show (_ : Int) < _; first | decide | assumption | omega) | exact Or.inr ⟨by decide, by decide⟩ | exact ⟨by decide, by decide⟩) ?_))
local macro_rules
  | `(tactic| ac_rfl) => `(tactic| first
    | assumption
    | exact L2.Same.refl _
    | exact St.SameX.refl _ _
    | (refine L2.Same.trans ?_ (St.same_upd (by assumption)); ac_rfl)
    | (refine St.SameX.trans ?_ (St.SameX.of (St.same_upd (by assumption))); ac_rfl)
    | (refine L2.Same.trans ?_ (show L2.Same _ _ by assumption); ac_rfl)
    | (refine St.SameX.trans ?_ (St.SameX.of (show L2.Same _ _ by assumption)); ac_rfl)
    | (refine St.SameX.trans ?_ (show St.SameX _ _ _ by assumption); ac_rfl))

namespace St
open PySem PySem.Spec PyProof.Rows L2
def topS (i : Nat) : Stmt := PySem.Challenge.pw_stridewell_k03_whole_what_is_guessed.main.body.getD i (.Pass ⟨0, 0, 0, 0⟩)
end St

namespace St
open PySem PySem.Spec PyProof.Rows L2
abbrev s_is_guesser : Stmt := topS 7
abbrev N_is_guesser : List Str := ["guesser", "within"]
abbrev p_is_guesser : List Str := ["guesser", "within"]
theorem sc_is_guesser : FnScope N_is_guesser p_is_guesser (defScope s_is_guesser) := ⟨rfl, rfl, rfl, by decide +kernel, rfl, by decide +kernel, by decide +kernel⟩
abbrev s_need_guesser : Stmt := topS 8
abbrev N_need_guesser : List Str := ["guesser"]
abbrev p_need_guesser : List Str := ["guesser"]
theorem sc_need_guesser : FnScope N_need_guesser p_need_guesser (defScope s_need_guesser) := ⟨rfl, rfl, rfl, by decide +kernel, rfl, by decide +kernel, by decide +kernel⟩
section
variable {P : Program} {w : World} {K : PySem.W.Frag} {mg : Str → Option Value} {base : Heap} {f dS dM : Addr} {fd : FuncData}
theorem ok_is_guesser (T : Nms mg) (B : Tab K w mg dS dM) (D_is_guesser : Df K mg "is_guesser" s_is_guesser p_is_guesser f fd) : ∀ n : Nat, FnOk P w K mg base CX0 n f fd p_is_guesser (spIs K n)
  | 0 => fn_zero fun vs H Q E ⟨v, g, w, _, _, _, h, h2, _⟩ => by omega
  | n + 1 => by
    have G_is_guesser := ok_is_guesser T B D_is_guesser n
    refine D_is_guesser.F.ok sc_is_guesser (fun vs H Q E h => ?_) (fun cdv A outer s H vs Q E hr h => ?_)
    · obtain ⟨r, m, wi, rfl, _⟩ := h
      rfl
    obtain ⟨v, g, m, rfl, hG, hW, h4, h5, q⟩ := h
    refine ⟨_, (pss_cons (ps_if (PW.pt (pw_or (pt_cmpR op_eq (pe_callB call_len_seq (by rfl) T.n_len (by decide +kernel) (pa_cons (pv 0) pa_nil)) pe_int (nomark _)) (pw_or (pt_cmpR (op_notIn_id B.i_SORTS) (pe_ix ix_tup (pv 0) pe_int (fun _ _ => rfl)) (pe_gref (by rfl) B.g_SORTS) (by with_unfolding_all rfl)) (pw_or (pt_cmpR op_ne (pe_callB call_len_seq (by rfl) T.n_len (by decide +kernel) (pa_cons (pv 0) pa_nil)) (pe_ix (ix_id B.i_SORTS) (pe_gref (by rfl) B.g_SORTS) (pe_ix ix_tup (pv 0) pe_int (fun _ _ => rfl)) (fun _ _ => rfl)) (nomark _)) (pw_or1 (pt_cmpR op_gt (pv 1) (pe_gint (by rfl) B.g_MOST_WITHIN) (nomark _)))))))
    (pss_one (ps_ret pe_bl))
    (pss_nil))
  (pss_cons (ps_if (pt_cmpR op_eq (pe_ix ix_tup (pv 0) pe_int (fun _ _ => rfl)) pe_str (nomark _))
    (pss_one (ps_ret (pe_and (pe_call G_is_guesser (hr.mono (by first | decide | omega)) (by rfl) D_is_guesser.m D_is_guesser.F.kp D_is_guesser.b .nil pass0 (pa_cons (pe_ix ix_tup (pv 0) pe_int (fun _ _ => rfl)) (pa_cons (pe_op op_add (pv 1) pe_int) pa_nil))) (pe_one (pe_call G_is_guesser (hr.mono (by first | decide | omega)) (by rfl) D_is_guesser.m D_is_guesser.F.kp D_is_guesser.b .nil pass0 (pa_cons (pe_ix ix_tup (pv 0) pe_int (fun _ _ => rfl)) (pa_cons (pe_op op_add (pv 1) pe_int) pa_nil)))))))
    (pss_nil))
  (pss_one (ps_ret (pe_or (pe_cmpR op_eq (pe_ix ix_tup (pv 0) pe_int (fun _ _ => rfl)) pe_str (nomark _)) (pe_one (pe_chain op_le op_le pe_int (pe_ix ix_tup (pv 0) pe_int (fun _ _ => rfl)) (pe_ix (ix_id B.i_MOST_OF) (pe_gref (by rfl) B.g_MOST_OF) (pe_ix ix_tup (pv 0) pe_int (fun _ _ => rfl)) (fun _ _ => rfl))))))))), ?_⟩
    cases g with
    | nil =>
      obtain ⟨p, rfl, hp⟩ := hG
      and_intros
      refine iteB (b := decide _) (decide_eq_true rfl) ?_
      exact q _ (Same.refl _)
    | leaf z ns =>
      obtain ⟨p, rfl, hp⟩ := hG
      have ez : ((.str z :: ns.map V.int : List V).length : Int) = (ns.length : Int) + 1 := by rw [List.length_cons, List.length_map]; rfl
      and_intros
      cases e : sortsL.lookup z with
      | none =>
        refine iteB rfl ?_
        refine iteB rfl ?_
        have q' := q H (Same.refl _)
        unfold isG at q'
        rw [e] at q'
        exact q'
      | some k =>
        refine iteB0 rfl ?_
        and_intros
        refine ⟨z, k, rfl, rfl, e, ?_⟩
        and_intros
        have q' : ∀ H', Same H H' → Q (V.bl (decide (((ns.length : Nat) : Int) + 1 = k) && decide (m ≤ 3) && (decide (z = "none") || numOk z ns))) H' := fun H' s => by
          have q' := q H' s
          unfold isG at q'
          rw [e] at q'
          exact q'
        by_cases c1 : ((ns.length : Nat) : Int) + 1 = k
        · rw [decide_eq_true c1] at q'
          refine iteB0 (by rw [ez, decide_eq_true (congrArg V.int c1)]; rfl) ?_
          and_intros
          by_cases c2 : m ≤ 3
          · rw [decide_eq_true c2] at q'
            refine iteB0 (decide_eq_false (by omega)) ?_
            and_intros
            refine iteB0 (decide_eq_false fun x => hW (V.str.inj x)) ?_
            and_intros
            by_cases c3 : z = "none"
            · rw [decide_eq_true c3] at q'
              refine iteB (decide_eq_true (congrArg V.str c3)) ?_
              exact q' _ (Same.refl _)
            · rw [decide_eq_false c3] at q'
              refine iteB0 (decide_eq_false fun x => c3 (V.str.inj x)) ?_
              obtain ⟨k2, mo, em⟩ := sorts_most e c3 hW
              obtain ⟨x, rfl⟩ : ∃ x, ns = [x] := by
                cases ns with
                | nil => rw [List.length_nil] at c1; omega
                | cons x r =>
                  cases r with
                  | nil => exact ⟨x, rfl⟩
                  | cons y r => rw [List.length_cons, List.length_cons] at c1; omega
              have eo : numOk z [x] = (decide (1 ≤ x) && decide (x ≤ mo)) := by unfold numOk; rw [em]
              rw [eo] at q'
              and_intros
              by_cases c4 : 1 ≤ x
              · refine iteB (decide_eq_true c4) ?_
                rw [decide_eq_true c4] at q'
                and_intros
                refine ⟨_, _, rfl, rfl, em, ?_⟩
                and_intros
                exact q' _ (Same.refl _)
              · refine iteB0 (decide_eq_false c4) ?_
                rw [decide_eq_false c4] at q'
                exact q' _ (Same.refl _)
          · rw [decide_eq_false c2] at q'
            refine iteB (decide_eq_true (by omega)) ?_
            exact q' _ (Same.refl _)
        · rw [decide_eq_false c1] at q'
          refine iteB (by rw [ez, decide_eq_false (fun e => c1 (V.int.inj e))]; rfl) ?_
          refine iteB rfl ?_
          exact q' _ (Same.refl _)
    | b1 a =>
      obtain ⟨p, x, rfl, hp, ha⟩ := hG
      and_intros
      refine ⟨_, 3, rfl, rfl, rfl, ?_⟩
      and_intros
      exact q _ (Same.refl _)
    | b3 a b c =>
      obtain ⟨p, x, y, z, rfl, hp, ha⟩ := hG
      and_intros
      refine ⟨_, 3, rfl, rfl, rfl, ?_⟩
      and_intros
      exact q _ (Same.refl _)
    | both a b =>
      obtain ⟨p, x, y, rfl, hp, ha, hb⟩ := hG
      and_intros
      refine ⟨_, 3, rfl, rfl, rfl, ?_⟩
      and_intros
      have q' : ∀ H', Same H H' → Q (V.bl (decide (m ≤ 3) && (isG (m + 1) a && isG (m + 1) b))) H' := q
      by_cases c2 : m ≤ 3
      · rw [decide_eq_true c2] at q'
        refine iteB0 (decide_eq_false (by omega)) ?_
        and_intros
        have ek : ∀ z : V, ([z, V.int ((m : Int) + 1)] : List V) = [z, V.int ((m + 1 : Nat) : Int)] := fun z => congrArg (fun i : Int => [z, V.int i]) (by omega)
        refine ⟨x, a, m + 1, ek _, ha, hW.1, by omega, by omega, fun H1 s1 => ?_⟩
        refine ⟨_, rfl, ?_⟩
        cases ea : isG (m + 1) a with
        | false =>
          refine iteN Bool.false_ne_true ?_
          rw [ea] at q'
          exact q' _ s1
        | true =>
          refine iteY rfl ?_
          rw [ea] at q'
          have hp1 := same_t s1 hp
          and_intros
          refine ⟨y, b, m + 1, ek _, hb.same s1, hW.2, by omega, by omega, fun H2 s2 => ?_⟩
          exact q' _ (s1.trans s2)
      · rw [decide_eq_false c2] at q'
        refine iteB (decide_eq_true (by omega)) ?_
        exact q' _ (Same.refl _)
theorem isG_good : ∀ (k : Nat) (g : G), good k g = true → k ≤ 3 → isG (3 - k) g = true ∧ WfG g
  | _, .nil, h, _ => by simp [good] at h
  | _, .b1 _, h, _ => by simp [good] at h
  | _, .b3 _ _ _, h, _ => by simp [good] at h
  | 0, .both _ _, h, _ => by simp [good] at h
  | k + 1, .both a b, h, hk => by
    have h' : (good k a && good k b) = true := h
    rw [Bool.and_eq_true] at h'
    have ha := isG_good k a h'.1 (by omega)
    have hb := isG_good k b h'.2 (by omega)
    have e : 3 - (k + 1) + 1 = 3 - k := by omega
    refine ⟨?_, ha.2, hb.2⟩
    show (decide (3 - (k + 1) ≤ 3) && (isG (3 - (k + 1) + 1) a && isG (3 - (k + 1) + 1) b)) = true
    rw [e, ha.1, hb.1, decide_eq_true (by omega)]
    rfl
  | k, .leaf w ns, h, _ => by
    unfold good at h
    rw [Bool.or_eq_true] at h
    rcases h with h | h
    · obtain ⟨rfl, rfl⟩ := of_decide_eq_true h
      refine ⟨?_, by show ("none" : Str) ≠ "both"; decide⟩
      show ((decide ((((0 : Nat)) : Int) + 1 = 1) && decide (3 - k ≤ 3)) && (decide (("none" : Str) = "none") || numOk "none" [])) = true
      rw [decide_eq_true (by omega : 3 - k ≤ 3)]
      rfl
    · cases ns with
      | nil => simp at h
      | cons n r =>
        cases r with
        | cons _ _ => simp at h
        | nil =>
          have h' := of_decide_eq_true h
          rcases h' with ⟨rfl, h1, h2⟩ | ⟨rfl, h1, h2⟩ | ⟨rfl, h1, h2⟩
          · refine ⟨?_, by show ("next" : Str) ≠ "both"; decide⟩
            show ((decide ((((1 : Nat)) : Int) + 1 = 2) && decide (3 - k ≤ 3)) && (decide (("next" : Str) = "none") || (decide (1 ≤ n) && decide (n ≤ 3)))) = true
            rw [decide_eq_true (by omega : 3 - k ≤ 3), decide_eq_true h1, decide_eq_true h2]
            simp
          · refine ⟨?_, by show ("stride" : Str) ≠ "both"; decide⟩
            show ((decide ((((1 : Nat)) : Int) + 1 = 2) && decide (3 - k ≤ 3)) && (decide (("stride" : Str) = "none") || (decide (1 ≤ n) && decide (n ≤ 3)))) = true
            rw [decide_eq_true (by omega : 3 - k ≤ 3), decide_eq_true h1, decide_eq_true h2]
            simp
          · refine ⟨?_, by show ("pairs" : Str) ≠ "both"; decide⟩
            show ((decide ((((1 : Nat)) : Int) + 1 = 2) && decide (3 - k ≤ 3)) && (decide (("pairs" : Str) = "none") || (decide (1 ≤ n) && decide (n ≤ 2)))) = true
            rw [decide_eq_true (by omega : 3 - k ≤ 3), decide_eq_true h1, decide_eq_true h2]
            simp
/-- of a good guesser nothing is refused -/
def spNeedG (K : PySem.W.Frag) : Sp := fun vs H Q _ => ∃ (v : V) (g : G), vs = [v] ∧ IsG K H g v ∧ good 3 g = true ∧ ∀ H', Same H H' → Q .non H'
theorem ok_need_guesser {f2 : Addr} {fd2 : FuncData} (T : Nms mg) (B : Tab K w mg dS dM) (D_is_guesser : Df K mg "is_guesser" s_is_guesser p_is_guesser f fd) (D_need_guesser : Df K mg "need_guesser" s_need_guesser p_need_guesser f2 fd2) : FnOk P w K mg base CX0 6 f2 fd2 p_need_guesser (spNeedG K) := by
  have G_is_guesser : FnOk P w K mg base CX0 5 f fd p_is_guesser (spIs K 5) := ok_is_guesser T B D_is_guesser 5
  refine D_need_guesser.F.ok sc_need_guesser (fun vs H Q E h => ?_) (fun cdv A outer s H vs Q E hr h => ?_)
  · obtain ⟨r, m, rfl, _⟩ := h
    rfl
  obtain ⟨v, g, rfl, hG, hg, q⟩ := h
  obtain ⟨hi, hW⟩ := isG_good 3 g hg (Nat.le_refl _)
  refine ⟨_, (pss_one (ps_if (pt_not (pt_val (pe_call G_is_guesser (hr.mono (by first | decide | omega)) (by rfl) D_is_guesser.m D_is_guesser.F.kp D_is_guesser.b .nil pass0 (pa_cons (pv 0) (pa_cons pe_int pa_nil)))))
    (pss_one (ps_never))
    (pss_nil))), ?_⟩
  and_intros
  refine ⟨v, g, 0, rfl, hG, hW, by omega, by omega, fun H1 s1 => ?_⟩
  and_intros
  rw [show isG 0 g = true from hi]
  exact q _ s1
end
end St

namespace St
open PySem PySem.Spec PyProof.Rows L2 TL
/-! ### the words of a guesser -/
def strN (n : Int) : Str := Str.ofString (toString n)
def wordsG : G → List Str
  | .leaf w ns => w :: ns.map strN
  | .both a b => "both" :: (wordsG a ++ wordsG b)
  | _ => []
theorem good_leaf {k : Nat} {w : Str} {ns : List Int} (h : good k (.leaf w ns) = true) : (w = "none" ∧ ns = []) ∨ ∃ n, ns = [n] ∧ (n = 1 ∨ n = 2 ∨ n = 3) ∧ (w = "next" ∨ w = "stride" ∨ w = "pairs") := by
  unfold good at h
  rw [Bool.or_eq_true] at h
  rcases h with h | h
  · exact .inl (of_decide_eq_true h)
  · cases ns with
    | nil => simp at h
    | cons n r =>
      cases r with
      | cons _ _ => simp at h
      | nil =>
        have h' := of_decide_eq_true h
        refine .inr ⟨n, rfl, ?_⟩
        rcases h' with ⟨rfl, h1, h2⟩ | ⟨rfl, h1, h2⟩ | ⟨rfl, h1, h2⟩
        · exact ⟨by omega, .inl rfl⟩
        · exact ⟨by omega, .inr (.inl rfl)⟩
        · exact ⟨by omega, .inr (.inr rfl)⟩
theorem len_app (x y : Str) : (x ++ y).length = x.length + y.length := by
  show (x ++ y).cps.size = x.cps.size + y.cps.size
  rw [show (x ++ y).cps = x.cps ++ y.cps from rfl, Array.size_append]
/-- how many signs and words -/
def wt (ws : List Str) : Nat := (ws.map (·.length)).sum + ws.length
theorem wt_append (a b : List Str) : wt (a ++ b) = wt a + wt b := by
  unfold wt
  rw [List.map_append, List.sum_append, List.length_append]
  omega
theorem wt_cons (a : Str) (b : List Str) : wt (a :: b) = a.length + 1 + wt b := by
  unfold wt
  rw [List.map_cons, List.sum_cons, List.length_cons]
  omega
theorem pow_ge (k : Nat) : 1 ≤ 2 ^ k := Nat.one_le_two_pow
theorem wt_words : ∀ (k : Nat) (g : G), good k g = true → wt (wordsG g) + 5 ≤ 14 * 2 ^ k
  | _, .nil, h => by simp [good] at h
  | _, .b1 _, h => by simp [good] at h
  | _, .b3 _ _ _, h => by simp [good] at h
  | 0, .both _ _, h => by simp [good] at h
  | k + 1, .both a b, h => by
    have h' : (good k a && good k b) = true := h
    rw [Bool.and_eq_true] at h'
    have ha := wt_words k a h'.1
    have hb := wt_words k b h'.2
    show wt ("both" :: (wordsG a ++ wordsG b)) + 5 ≤ 14 * 2 ^ (k + 1)
    rw [wt_cons, wt_append, Nat.pow_succ]
    have : ("both" : Str).length = 4 := rfl
    omega
  | k, .leaf w ns, h => by
    have p := pow_ge k
    have e : wt (wordsG (.leaf w ns)) ≤ 9 := by
      rcases good_leaf h with ⟨rfl, rfl⟩ | ⟨n, rfl, hn, hw⟩
      · decide
      · rcases hn with rfl | rfl | rfl <;> rcases hw with rfl | rfl | rfl <;> decide
    omega
theorem words_ne : ∀ (k : Nat) (g : G), good k g = true → wordsG g ≠ []
  | _, .nil, h => by simp [good] at h
  | _, .b1 _, h => by simp [good] at h
  | _, .b3 _ _ _, h => by simp [good] at h
  | _, .both _ _, _ => by unfold wordsG; simp
  | _, .leaf _ _, _ => by unfold wordsG; simp
theorem words_no32 : ∀ (k : Nat) (g : G), good k g = true → ∀ p ∈ wordsG g, (32 : Nat) ∉ tl p
  | _, .nil, h => by simp [good] at h
  | _, .b1 _, h => by simp [good] at h
  | _, .b3 _ _ _, h => by simp [good] at h
  | 0, .both _ _, h => by simp [good] at h
  | k + 1, .both a b, h => by
    have h' : (good k a && good k b) = true := h
    rw [Bool.and_eq_true] at h'
    intro p hp
    rcases List.mem_cons.mp (show p ∈ ("both" : Str) :: (wordsG a ++ wordsG b) from hp) with rfl | hp
    · decide
    · rcases List.mem_append.mp hp with hp | hp
      · exact words_no32 k a h'.1 p hp
      · exact words_no32 k b h'.2 p hp
  | k, .leaf w ns, h => by
    intro p hp
    rcases good_leaf h with ⟨rfl, rfl⟩ | ⟨n, rfl, hn, hw⟩
    · rcases List.mem_cons.mp (show p ∈ ("none" : Str) :: [] from hp) with rfl | hp
      · decide
      · cases hp
    · rcases List.mem_cons.mp (show p ∈ w :: [strN n] from hp) with rfl | hp
      · rcases hw with rfl | rfl | rfl <;> decide
      · rw [List.mem_singleton.mp hp]
        rcases hn with rfl | rfl | rfl <;> decide
/-! ### the text of a guesser, by the law -/
def textG : G → Str
  | .both a b => (((("both " : Str) ++ textG a) ++ (" " : Str)) ++ textG b)
  | g => Txt.join " " (wordsG g)
theorem joinL_append (S : List Nat) : ∀ (xs ys : List (List Nat)), xs ≠ [] → ys ≠ [] → joinL S (xs ++ ys) = joinL S xs ++ (S ++ joinL S ys)
  | [], _, h, _ => absurd rfl h
  | [x], y :: r, _, _ => rfl
  | [_], [], _, h => absurd rfl h
  | x :: z :: r, ys, _, h => by
    show x ++ (S ++ joinL S ((z :: r) ++ ys)) = (x ++ (S ++ joinL S (z :: r))) ++ (S ++ joinL S ys)
    rw [joinL_append S (z :: r) ys (by simp) h, List.append_assoc, List.append_assoc]
theorem str_ext {x y : Str} (h : tl x = tl y) : x = y := by
  obtain ⟨⟨a⟩⟩ := x
  obtain ⟨⟨b⟩⟩ := y
  have e : a = b := h
  rw [e]
theorem text_join : ∀ (k : Nat) (g : G), good k g = true → textG g = Txt.join " " (wordsG g)
  | _, .nil, h => by simp [good] at h
  | _, .b1 _, h => by simp [good] at h
  | _, .b3 _ _ _, h => by simp [good] at h
  | 0, .both _ _, h => by simp [good] at h
  | k + 1, .both a b, h => by
    have h' : (good k a && good k b) = true := h
    rw [Bool.and_eq_true] at h'
    have ha := text_join k a h'.1
    have hb := text_join k b h'.2
    have na := words_ne k a h'.1
    have nb := words_ne k b h'.2
    refine str_ext ?_
    show tl ((((("both " : Str) ++ textG a) ++ (" " : Str)) ++ textG b)) = _
    rw [ha, hb, tl_append, tl_append, tl_append, join_eq, join_eq, join_eq, tl_join, tl_join, tl_join]
    show _ = joinL (tl " ") (tl "both" :: (wordsG a ++ wordsG b).map tl)
    rw [List.map_append]
    have e := joinL_append (tl " ") [tl "both"] ((wordsG a).map tl ++ (wordsG b).map tl) (by simp) (by simp [na])
    rw [List.singleton_append] at e
    rw [e, joinL_append _ _ _ (by simpa using na) (by simpa using nb)]
    show (tl "both " ++ _ ++ tl " ") ++ _ = tl "both" ++ (tl " " ++ (_ ++ (tl " " ++ _)))
    rw [show tl ("both " : Str) = tl "both" ++ tl " " by decide]
    simp only [List.append_assoc]
  | _, .leaf _ _, _ => rfl
theorem join_len : ∀ (ws : List Str), (Txt.join " " ws).length ≤ wt ws := by
  intro ws
  rw [join_eq]
  induction ws with
  | nil => exact Nat.le_refl _
  | cons a r ih =>
    cases r with
    | nil =>
      rw [wt_cons]
      show a.length ≤ _
      omega
    | cons b r =>
      rw [wt_cons]
      show (a ++ " " ++ Str.join " " (b :: r)).length ≤ _
      rw [len_app, len_app]
      have : (" " : Str).length = 1 := rfl
      omega
theorem text_len {k : Nat} {g : G} (h : good k g = true) : (textG g).length + 5 ≤ 14 * 2 ^ k := by
  rw [text_join k g h]
  have a := join_len (wordsG g)
  have b := wt_words k g h
  omega
theorem read_back {k : Nat} {g : G} (h : good k g = true) : Txt.split (textG g) " " = wordsG g := by
  rw [text_join k g h]
  exact split_join (y := " ") (s := 32) (S := []) (by decide) (by decide +kernel) (words_ne k g h) (words_no32 k g h)
end St

namespace St
open PySem PySem.Spec PyProof.Rows L2
abbrev s__law_alike : Stmt := topS 16
abbrev N__law_alike : List Str := ["_law_found", "_law_due", "_law_k"]
abbrev p__law_alike : List Str := ["_law_found", "_law_due"]
theorem sc__law_alike : FnScope N__law_alike p__law_alike (defScope s__law_alike) := ⟨rfl, rfl, rfl, by decide +kernel, rfl, by decide +kernel, by decide +kernel⟩
section
variable {P : Program} {w : World} {K : PySem.W.Frag} {mg : Str → Option Value} {base : Heap} {f : Addr} {fd : FuncData}
theorem ok__law_alike (T : Nms mg) (D__law_alike : Df K mg "_law_alike" s__law_alike p__law_alike f fd) : ∀ n : Nat, FnOk P w K mg base CX0 n f fd p__law_alike (spAlike K n)
  | 0 => fn_zero fun vs H Q E ⟨v1, v2, d, _, _, _, h, _⟩ => h
  | n + 1 => by
    have G__law_alike := ok__law_alike T D__law_alike n
    refine D__law_alike.F.ok sc__law_alike (fun vs H Q E h => ?_) (fun cdv A outer s H vs Q E hr h => ?_)
    · obtain ⟨r, m, wi, rfl, _⟩ := h
      rfl
    obtain ⟨v1, v2, d, rfl, h1, h2, hd, q⟩ := h
    refine ⟨_, (pss_cons (ps_if (PW.pt (pw_or (pt_val (pe_callB call_isi (by rfl) T.n_isinstance (by decide +kernel) (pa_cons (pv 1) (pa_cons (pe_bltn (v := .ty "tuple") (u := .type "tuple") (by rfl) T.n_tuple (by decide +kernel) rfl) pa_nil)))) (pw_or1 (pt_val (pe_callB call_isi (by rfl) T.n_isinstance (by decide +kernel) (pa_cons (pv 1) (pa_cons (pe_bltn (v := .ty "list") (u := .type "list") (by rfl) T.n_list (by decide +kernel) rfl) pa_nil)))))))
    (pss_cons (ps_if (PW.pt (pw_or (pt_cmpR op_ne (pe_callB call_isi (by rfl) T.n_isinstance (by decide +kernel) (pa_cons (pv 0) (pa_cons (pe_bltn (v := .ty "tuple") (u := .type "tuple") (by rfl) T.n_tuple (by decide +kernel) rfl) pa_nil))) (pe_callB call_isi (by rfl) T.n_isinstance (by decide +kernel) (pa_cons (pv 1) (pa_cons (pe_bltn (v := .ty "tuple") (u := .type "tuple") (by rfl) T.n_tuple (by decide +kernel) rfl) pa_nil))) (nomark _)) (pw_or1 (pt_not (pt_val (pe_callB call_isiT (by rfl) T.n_isinstance (by decide +kernel) (pa_cons (pv 0) (pa_cons (pe_tup (pa_cons (pe_bltn (v := .ty "tuple") (u := .type "tuple") (by rfl) T.n_tuple (by decide +kernel) rfl) (pa_cons (pe_bltn (v := .ty "list") (u := .type "list") (by rfl) T.n_list (by decide +kernel) rfl) pa_nil))) pa_nil))))))))
      (pss_one (ps_ret pe_bl))
      (pss_nil))
    (pss_cons (ps_if (pt_cmpR op_ne (pe_callB call_len_seq (by rfl) T.n_len (by decide +kernel) (pa_cons (pv 0) pa_nil)) (pe_callB call_len_seq (by rfl) T.n_len (by decide +kernel) (pa_cons (pv 1) pa_nil)) (nomark _))
      (pss_one (ps_ret pe_bl))
      (pss_nil))
    (pss_one (ps_ret (pe_cmpR (op_eqD hr.units) (pe_lc (own := [("_law_k", 2)]) (g := gName 2) rfl sc__law_alike.nd (pi_range1 rfl T.n_range (pa_cons (pe_callB call_len_seq (by rfl) T.n_len (by decide +kernel) (pa_cons (pv 1) pa_nil)) pa_nil)) (blkOk_by (own := [("_law_k", 2)]) (N := N__law_alike) (sc := defScope s__law_alike) (by decide +kernel)) (fun _ _ _ _ _ => pg_name (i := 2) sc__law_alike.nd rfl (Or.inl rfl)) (fun _ _ _ _ _ => pts_one (pt_not (pt_val (pe_call G__law_alike (hr.mono (by first | decide | omega)) (by rfl) D__law_alike.m D__law_alike.F.kp D__law_alike.b .nil pass0 (pa_cons (pe_ix (ix_seqK (K := K)) (pv 0) (pv 2) (fun _ _ => rfl)) (pa_cons (pe_ix (ix_seqK (K := K)) (pv 1) (pv 2) (fun _ _ => rfl)) pa_nil)))))) (fun _ _ _ _ _ => (pv 2))) (pe_lst pa_nil) (nomark _))))))
    (pss_nil))
  (pss_cons (ps_if (PW.pt (pw_or (pt_cmpR op_isN (pv 1) pe_non (nomark _)) (pw_or1 (pt_cmpR op_isN (pv 0) pe_non (nomark _)))))
    (pss_one (ps_ret (pe_and (pe_cmpR op_isN (pv 1) pe_non (nomark _)) (pe_one (pe_cmpR op_isN (pv 0) pe_non (nomark _))))))
    (pss_nil))
  (pss_cons (ps_if (PW.pt (pw_or (pt_val (pe_callB call_isi (by rfl) T.n_isinstance (by decide +kernel) (pa_cons (pv 1) (pa_cons (pe_bltn (v := .ty "bool") (u := .type "bool") (by rfl) T.n_bool (by decide +kernel) rfl) pa_nil)))) (pw_or1 (pt_val (pe_callB call_isi (by rfl) T.n_isinstance (by decide +kernel) (pa_cons (pv 0) (pa_cons (pe_bltn (v := .ty "bool") (u := .type "bool") (by rfl) T.n_bool (by decide +kernel) rfl) pa_nil)))))))
    (pss_one (ps_ret (pe_and (pe_callB call_isi (by rfl) T.n_isinstance (by decide +kernel) (pa_cons (pv 1) (pa_cons (pe_bltn (v := .ty "bool") (u := .type "bool") (by rfl) T.n_bool (by decide +kernel) rfl) pa_nil))) (pe_and (pe_callB call_isi (by rfl) T.n_isinstance (by decide +kernel) (pa_cons (pv 0) (pa_cons (pe_bltn (v := .ty "bool") (u := .type "bool") (by rfl) T.n_bool (by decide +kernel) rfl) pa_nil))) (pe_one (pe_cmpR op_eq (pv 0) (pv 1) (nomark _)))))))
    (pss_nil))
  (pss_cons (ps_if (pt_val (pe_callB call_isi (by rfl) T.n_isinstance (by decide +kernel) (pa_cons (pv 1) (pa_cons (pe_bltn (v := .ty "str") (u := .type "str") (by rfl) T.n_str (by decide +kernel) rfl) pa_nil))))
    (pss_one (ps_ret (pe_and (pe_callB call_isi (by rfl) T.n_isinstance (by decide +kernel) (pa_cons (pv 0) (pa_cons (pe_bltn (v := .ty "str") (u := .type "str") (by rfl) T.n_str (by decide +kernel) rfl) pa_nil))) (pe_one (pe_cmpR op_eq (pv 0) (pv 1) (nomark _))))))
    (pss_nil))
  (pss_one (ps_ret (pe_and (pe_callB call_isi (by rfl) T.n_isinstance (by decide +kernel) (pa_cons (pv 0) (pa_cons (pe_bltn (v := .ty "int") (u := .type "int") (by rfl) T.n_int (by decide +kernel) rfl) pa_nil))) (pe_one (pe_cmpR op_eq (pv 0) (pv 1) (nomark _)))))))))), ?_⟩
    cases d with
    | none =>
      cases h1; cases h2
      have t2 : TyX K H .non (.type "NoneType") := .base .non
      and_intros
      exact q _ (Same.refl _)
    | bool b =>
      cases h1; cases h2
      have t2 : TyX K H (.bl b) (.type "bool") := .base (.bl b)
      and_intros
      rw [decide_eq_true rfl]
      exact q _ (Same.refl _)
    | int b =>
      cases h1; cases h2
      have t2 : TyX K H (.int b) (.type "int") := .base (.int b)
      and_intros
      rw [decide_eq_true rfl]
      exact q _ (Same.refl _)
    | str b =>
      cases h1; cases h2
      have t2 : TyX K H (.str b) (.type "str") := .base (.str b)
      and_intros
      rw [decide_eq_true rfl]
      exact q _ (Same.refl _)
    | dict _ => cases h1
    | list ds =>
      cases h1 with
      | @lst a1 xs1 _ l1 al1 =>
      cases h2 with
      | @lst a2 xs2 _ l2 al2 =>
      have t1 : TyX K H (.ref a1) (.type "list") := tyx_L l1
      have t2 : TyX K H (.ref a2) (.type "list") := tyx_L l2
      and_intros
      intro T nT
      have e1 := dlen al1
      have e2 := dlen al2
      have hlen : ds.length ≤ 100000 := hd.1
      have l1' := same_l (same_upd (o := .tup [.ty "tuple", .ty "list"]) nT) l1
      have l2' := same_l (same_upd (o := .tup [.ty "tuple", .ty "list"]) nT) l2
      have sT : Same H (upd H T (.tup [.ty "tuple", .ty "list"])) := same_upd nT
      refine ⟨_, _, _, _, _, true, rfl, upd_same, .cons (.ty _) (.cons (.ty _) .nil), tyx_L l1', tup_list (.inr rfl), ?_⟩
      generalize upd H T (.tup [.ty "tuple", .ty "list"]) = H1 at l1' l2' sT ⊢
      and_intros
      refine iteB0 (by rw [e1, e2, decide_eq_true rfl]; rfl) ?_
      and_intros
      intro D nD
      refine lc_range (lo := 0) (n := (((xs2.length : Nat) : Int)).toNat) (fun i H' => Same H1 H' ∧ H' D = some (.lst [])) ⟨same_upd nD, upd_same⟩ (fun i H' hi h => ?_) (fun H' h => ?_)
      · have hi' : i < ds.length := by omega
        obtain ⟨x1, g1, p1⟩ := dat al1 (List.getElem?_eq_getElem hi')
        obtain ⟨x2, g2, p2⟩ := dat al2 (List.getElem?_eq_getElem hi')
        have z : ((0 : Int) + (i : Int)) = ((i : Nat) : Int) := by omega
        rw [z]
        and_intros
        refine .inl ⟨_, _, _, _, rfl, rfl, same_l h.1 l1', atI_nat g1, ?_⟩
        and_intros
        refine .inl ⟨_, _, _, _, rfl, rfl, same_l h.1 l2', atI_nat g2, ?_⟩
        have sH : Same H H' := sT.trans h.1
        refine ⟨x1, x2, ds[i], rfl, dsame p1 sH, dsame p2 sH, hd.2 _ (List.getElem_mem hi'), fun H2 s2 => ?_⟩
        and_intros
        exact ⟨h.1.trans s2, s2 _ _ h.2⟩
      · and_intros
        intro L nL
        refine ⟨.list [], .list [], .lst (sql (same_upd nL _ _ h.2)) .nil, .lst (sql upd_same) .nil, rfl, rfl, ?_⟩
        exact q _ ((sT.trans h.1).trans (same_upd nL))
    | tuple ds =>
      cases h1 with
      | @tup a1 xs1 _ l1 al1 =>
      cases h2 with
      | @tup a2 xs2 _ l2 al2 =>
      have t1 : TyX K H (.ref a1) (.type "tuple") := tyx_T l1
      have t2 : TyX K H (.ref a2) (.type "tuple") := tyx_T l2
      and_intros
      intro T nT
      have e1 := dlen al1
      have e2 := dlen al2
      have hlen : ds.length ≤ 100000 := hd.1
      have l1' := same_t (same_upd (o := .tup [.ty "tuple", .ty "list"]) nT) l1
      have l2' := same_t (same_upd (o := .tup [.ty "tuple", .ty "list"]) nT) l2
      have sT : Same H (upd H T (.tup [.ty "tuple", .ty "list"])) := same_upd nT
      refine ⟨_, _, _, _, _, true, rfl, upd_same, .cons (.ty _) (.cons (.ty _) .nil), tyx_T l1', tup_list (.inl rfl), ?_⟩
      generalize upd H T (.tup [.ty "tuple", .ty "list"]) = H1 at l1' l2' sT ⊢
      and_intros
      refine iteB0 (by rw [e1, e2, decide_eq_true rfl]; rfl) ?_
      and_intros
      intro D nD
      refine lc_range (lo := 0) (n := (((xs2.length : Nat) : Int)).toNat) (fun i H' => Same H1 H' ∧ H' D = some (.lst [])) ⟨same_upd nD, upd_same⟩ (fun i H' hi h => ?_) (fun H' h => ?_)
      · have hi' : i < ds.length := by omega
        obtain ⟨x1, g1, p1⟩ := dat al1 (List.getElem?_eq_getElem hi')
        obtain ⟨x2, g2, p2⟩ := dat al2 (List.getElem?_eq_getElem hi')
        have z : ((0 : Int) + (i : Int)) = ((i : Nat) : Int) := by omega
        rw [z]
        and_intros
        refine .inr <| .inl ⟨_, _, _, _, rfl, rfl, same_t h.1 l1', atI_nat g1, ?_⟩
        and_intros
        refine .inr <| .inl ⟨_, _, _, _, rfl, rfl, same_t h.1 l2', atI_nat g2, ?_⟩
        have sH : Same H H' := sT.trans h.1
        refine ⟨x1, x2, ds[i], rfl, dsame p1 sH, dsame p2 sH, hd.2 _ (List.getElem_mem hi'), fun H2 s2 => ?_⟩
        and_intros
        exact ⟨h.1.trans s2, s2 _ _ h.2⟩
      · and_intros
        intro L nL
        refine ⟨.list [], .list [], .lst (sql (same_upd nL _ _ h.2)) .nil, .lst (sql upd_same) .nil, rfl, rfl, ?_⟩
        exact q _ ((sT.trans h.1).trans (same_upd nL))
end
end St

namespace St
open PySem PySem.Spec PyProof.Rows L2
abbrev s__law_taken : Stmt := topS 15
abbrev N__law_taken : List Str := ["_law_row", "_law_many", "_law_cell"]
abbrev p__law_taken : List Str := ["_law_row", "_law_many"]
theorem sc__law_taken : FnScope N__law_taken p__law_taken (defScope s__law_taken) := ⟨rfl, rfl, rfl, by decide +kernel, rfl, by decide +kernel, by decide +kernel⟩
section
variable {P : Program} {w : World} {K : PySem.W.Frag} {mg : Str → Option Value} {base : Heap} {f : Addr} {fd : FuncData}
theorem ok__law_taken (F : Fun K "_law_taken" "_law_taken" s__law_taken f fd) (T : Nms mg) : FnOk P w K mg base CX0 1 f fd p__law_taken (spTaken K) := by
  refine F.ok sc__law_taken (fun vs H Q E h => ?_) (fun cdv A outer s H vs Q E hr h => ?_)
  · obtain ⟨r, m, rfl, _⟩ := h
    rfl
  obtain ⟨r, m, rfl, ⟨sc, ns, i, s, hr0, hs, h0⟩, hm, q⟩ := h
  refine ⟨_, (pss_cons (ps_asg (pe_op op_add (pe_ix ix_list (pv 0) pe_int (fun _ _ => rfl)) pe_int) (pg_sub (pv 0) pe_int set_list))
  (pss_cons (ps_if (pt_cmpR op_gt (pe_ix ix_list (pv 0) pe_int (fun _ _ => rfl)) (pe_callB call_len_seq (by rfl) T.n_len (by decide +kernel) (pa_cons (pe_ix ix_list (pv 0) pe_int (fun _ _ => rfl)) pa_nil)) (nomark _))
    (pss_cons (ps_asg (pe_op op_mod (pe_op op_add (pe_op op_mul (pe_ix ix_list (pv 0) pe_int (fun _ _ => rfl)) pe_int) pe_int) pe_int) (pg_sub (pv 0) pe_int set_list))
    (pss_one (ps_ret (pe_op op_mod (pe_op op_fdiv (pe_ix ix_list (pv 0) pe_int (fun _ _ => rfl)) pe_int) (pv 1)))))
    (pss_nil))
  (pss_cons (ps_set (i := 2) sc__law_taken.nd rfl (Or.inl rfl) (pe_ix ix_list (pe_ix ix_list (pv 0) pe_int (fun _ _ => rfl)) (pe_op op_sub (pe_ix ix_list (pv 0) pe_int (fun _ _ => rfl)) pe_int) (fun _ _ => rfl)))
  (pss_cons (ps_asg (pe_op op_mod (pe_op op_add (pe_op op_add (pe_op op_mul (pe_ix ix_list (pv 0) pe_int (fun _ _ => rfl)) pe_int) (pv 2)) pe_int) pe_int) (pg_sub (pv 0) pe_int set_list))
  (pss_one (ps_ret (pe_op op_mod (pv 2) (pv 1)))))))), ?_⟩
  have hR : SqL K H r [.ref sc, .int i, .int s] := sql hr0
  have ne : ∀ {o : HO}, Sc K (upd H r o) sc (ns.map V.int) := fun {o} => hs.imm (Imm.upd ⟨_, hr0⟩)
  have fin : ∀ (x s' : Int) (o : HO), 0 ≤ x → x < m → Q (.int x) (upd (upd H r o) r (.lst [.ref sc, .int (i + 1), .int s'])) := fun x s' o h1 h2 => by
    rw [upd_upd]
    exact q x _ h1 h2 SameX.upd ⟨sc, ns, i + 1, s', upd_same, ne, by omega⟩
  and_intros
  have hsc : SqL K (upd H r (.lst [.ref sc, .int (i + 1), .int s])) sc (ns.map V.int) := ne.sql
  and_intros
  refine ite2 (fun c => ?_) (fun c => ?_)
  · and_intros
    exact fin _ _ _ (Int.emod_nonneg _ (by omega)) (Int.emod_lt_of_pos _ hm)
  · have c' : ¬ (((ns.map V.int).length : Nat) : Int) < i + 1 := of_decide_eq_false (Bool.eq_false_iff.mpr c)
    rw [List.length_map] at c'
    and_intros
    have hat : atI (ns.map V.int) (i + 1 - 1) = some (.int (ns[i.toNat]'(by omega))) := by
      have e : i + 1 - 1 = ((i.toNat : Nat) : Int) := by omega
      rw [e]
      refine atI_nat ?_
      rw [List.getElem?_map, List.getElem?_eq_getElem (by omega)]
      rfl
    refine ⟨_, _, _, _, rfl, rfl, hsc, hat, ?_⟩
    and_intros
    exact fin _ _ _ (Int.emod_nonneg _ (by omega)) (Int.emod_lt_of_pos _ hm)
end
end St

namespace St
open PySem PySem.Spec PyProof.Rows L2
abbrev s__law_guesser : Stmt := topS 17
abbrev N__law_guesser : List Str := ["_law_row", "_law_within", "_law_way", "_law_one", "_law_sorts"]
abbrev p__law_guesser : List Str := ["_law_row", "_law_within"]
theorem sc__law_guesser : FnScope N__law_guesser p__law_guesser (defScope s__law_guesser) := ⟨rfl, rfl, rfl, by decide +kernel, rfl, by decide +kernel, by decide +kernel⟩
section
variable {P : Program} {w : World} {K : PySem.W.Frag} {mg : Str → Option Value} {base : Heap} {f fT : Addr} {fd fdT : FuncData}
theorem ok__law_guesser (T : Nms mg) (D__law_taken : Df K mg "_law_taken" s__law_taken p__law_taken fT fdT) (D__law_guesser : Df K mg "_law_guesser" s__law_guesser p__law_guesser f fd) : ∀ n : Nat, FnOk P w K mg base CX0 (n + 1) f fd p__law_guesser (spGuesser K n)
  | 0 => fn_zero fun vs H Q E ⟨r, w, _, h, _⟩ => absurd h (Nat.not_lt_zero _)
  | n + 1 => by
    have G__law_guesser := ok__law_guesser T D__law_taken D__law_guesser n
    have G__law_taken : FnOk P w K mg base CX0 1 fT fdT p__law_taken (spTaken K) := ok__law_taken D__law_taken.F T
    refine D__law_guesser.F.ok sc__law_guesser (fun vs H Q E h => ?_) (fun cdv A outer s H vs Q E hr h => ?_)
    · obtain ⟨r, m, rfl, _⟩ := h
      rfl
    obtain ⟨r, m, rfl, hm, hR, q⟩ := h
    refine ⟨_, (pss_cons (ps_set (i := 2) sc__law_guesser.nd rfl (Or.inl rfl) (pe_call G__law_taken (hr.mono (by first | decide | omega)) (by rfl) D__law_taken.m D__law_taken.F.kp D__law_taken.b .nil pass0 (pa_cons (pv 0) (pa_cons (pe_ix ix_list (pe_lst (pa_cons pe_int (pa_cons pe_int pa_nil))) (pe_callTy call_int1 (by rfl) T.n_int (by decide +kernel) (pa_cons (pe_cmpR op_gt (pv 1) pe_int (nomark _)) pa_nil)) (fun _ _ => rfl)) pa_nil))))
  (pss_cons (ps_if (pt_cmpR op_gt (pv 2) pe_int (nomark _))
    (pss_cons (ps_set (i := 3) sc__law_guesser.nd rfl (Or.inl rfl) (pe_call G__law_guesser (hr.mono (by first | decide | omega)) (by rfl) D__law_guesser.m D__law_guesser.F.kp D__law_guesser.b .nil pass0 (pa_cons (pv 0) (pa_cons (pe_op op_sub (pv 1) pe_int) pa_nil))))
    (pss_one (ps_ret (pe_tup (pa_cons pe_str (pa_cons (pv 3) (pa_cons (pe_call G__law_guesser (hr.mono (by first | decide | omega)) (by rfl) D__law_guesser.m D__law_guesser.F.kp D__law_guesser.b .nil pass0 (pa_cons (pv 0) (pa_cons (pe_op op_sub (pv 1) pe_int) pa_nil))) pa_nil)))))))
    (pss_nil))
  (pss_cons (ps_set (i := 4) sc__law_guesser.nd rfl (Or.inl rfl) (pe_lst (pa_cons (pe_tup (pa_cons pe_str pa_nil)) (pa_cons (pe_tup (pa_cons pe_str (pa_cons (pe_op op_add pe_int (pe_call G__law_taken (hr.mono (by first | decide | omega)) (by rfl) D__law_taken.m D__law_taken.F.kp D__law_taken.b .nil pass0 (pa_cons (pv 0) (pa_cons pe_int pa_nil)))) pa_nil))) (pa_cons (pe_tup (pa_cons pe_str (pa_cons (pe_op op_add pe_int (pe_call G__law_taken (hr.mono (by first | decide | omega)) (by rfl) D__law_taken.m D__law_taken.F.kp D__law_taken.b .nil pass0 (pa_cons (pv 0) (pa_cons pe_int pa_nil)))) pa_nil))) pa_nil)))))
  (pss_cons (ps_set (i := 4) sc__law_guesser.nd rfl (Or.inl rfl) (pe_op op_cat (pv 4) (pe_lst (pa_cons (pe_tup (pa_cons pe_str (pa_cons (pe_op op_add pe_int (pe_call G__law_taken (hr.mono (by first | decide | omega)) (by rfl) D__law_taken.m D__law_taken.F.kp D__law_taken.b .nil pass0 (pa_cons (pv 0) (pa_cons pe_int pa_nil)))) pa_nil))) (pa_cons (pe_tup (pa_cons pe_str (pa_cons pe_int pa_nil))) (pa_cons (pe_tup (pa_cons pe_str (pa_cons pe_int pa_nil))) pa_nil))))))
  (pss_one (ps_ret (pe_ix ix_list (pv 4) (pv 2) (fun _ _ => rfl)))))))), ?_⟩
    -- way = taken(row, [6, 8][int(within > 0)])
    and_intros
    intro l nl
    and_intros
    refine Or.inr ⟨_, rfl, ?_⟩
    have hl : SqL K (upd H l (.lst [.int 6, .int 8])) l [.int 6, .int 8] := sql upd_same
    have hix : atI [V.int 6, V.int 8] (if decide ((0 : Int) < (m : Int)) = true then 1 else 0) = some (.int (if 0 < m then 8 else 6)) := by
      by_cases z : 0 < m
      · rw [decide_eq_true (show (0 : Int) < (m : Int) by omega), if_pos rfl, if_pos z]; rfl
      · rw [decide_eq_false (show ¬ (0 : Int) < (m : Int) by omega), if_neg Bool.false_ne_true, if_neg z]; rfl
    refine ⟨_, _, _, _, rfl, rfl, hl, hix, ?_⟩
    refine ⟨r, _, rfl, hR.same (by ac_rfl), by split <;> omega, fun way H1 w0 w1 s1 hR1 => ?_⟩
    and_intros
    refine ite2 (fun c => ?_) (fun c => ?_)
    · have c' : (5 : Int) < way := of_decide_eq_true c
      obtain ⟨k, rfl⟩ : ∃ k, m = k + 1 := by
        refine ⟨m - 1, ?_⟩
        split at w1 <;> omega
      have ek : ([V.ref r, V.int (((k + 1 : Nat) : Int) - 1)] : List V) = [V.ref r, V.int (k : Int)] := congrArg (fun z : Int => [V.ref r, V.int z]) (by omega)
      and_intros
      refine ⟨r, k, ek, by omega, hR1, fun g1 v1 H2 s2 hR2 h1 g1' => ?_⟩
      and_intros
      refine ⟨r, k, ek, by omega, hR2, fun g2 v2 H3 s3 hR3 h2 g2' => ?_⟩
      and_intros
      intro p np
      refine q (.both g1 g2) _ _ (by ac_rfl) (hR3.same (by ac_rfl)) ⟨p, v1, v2, rfl, sqt upd_same, (h1.sameX s3 hR2.at_).same (by ac_rfl), h2.same (by ac_rfl)⟩ ?_
      show (good k g1 && good k g2) = true
      rw [g1', g2']
      rfl
    · have c' : ¬ (5 : Int) < way := of_decide_eq_false (Bool.eq_false_iff.mpr c)
      -- sorts = [("none",), ("next", 1 + ..), ("stride", 1 + ..)]
      and_intros
      intro p1 np1
      and_intros
      refine ⟨r, _, rfl, hR1.same (by ac_rfl), by decide, fun x2 H2 a2 b2 s2 hR2 => ?_⟩
      and_intros
      intro p2 np2
      and_intros
      refine ⟨r, _, rfl, hR2.same (by ac_rfl), by decide, fun x3 H3 a3 b3 s3 hR3 => ?_⟩
      and_intros
      intro p3 np3
      and_intros
      intro l1 nl1
      and_intros
      refine ⟨r, _, rfl, hR3.same (by ac_rfl), by decide, fun x4 H4 a4 b4 s4 hR4 => ?_⟩
      and_intros
      intro p4 np4
      and_intros
      intro p5 np5
      and_intros
      intro p6 np6
      and_intros
      intro l2 nl2
      have l1r : l1 ≠ r := (hR3.same (same_upd np3)).nr nl1
      have p1r : p1 ≠ r := hR1.nr np1
      have p2r : p2 ≠ r := hR2.nr np2
      have p3r : p3 ≠ r := hR3.nr np3
      refine ⟨_, _, _, _, rfl, rfl, (by infer_instance), (by infer_instance), (by exact (show 3 + 3 ≤ sizeLine by decide)), ?_⟩
      intro l3 nl3
      and_intros
      have w6 : way = 0 ∨ way = 1 ∨ way = 2 ∨ way = 3 ∨ way = 4 ∨ way = 5 := by omega
      rcases w6 with rfl | rfl | rfl | rfl | rfl | rfl
      · refine ⟨_, _, _, _, rfl, rfl, (by infer_instance), rfl, ?_⟩
        exact q (.leaf "none" []) _ _ (by ac_rfl) (hR4.same (by ac_rfl)) ⟨p1, rfl, (by infer_instance)⟩ (good_none m)
      · refine ⟨_, _, _, _, rfl, rfl, (by infer_instance), rfl, ?_⟩
        exact q (.leaf "next" [1 + x2]) _ _ (by ac_rfl) (hR4.same (by ac_rfl)) ⟨p2, rfl, (by infer_instance)⟩ (good_next (by omega) (by omega))
      · refine ⟨_, _, _, _, rfl, rfl, (by infer_instance), rfl, ?_⟩
        exact q (.leaf "stride" [1 + x3]) _ _ (by ac_rfl) (hR4.same (by ac_rfl)) ⟨p3, rfl, (by infer_instance)⟩ (good_stride (by omega) (by omega))
      · refine ⟨_, _, _, _, rfl, rfl, (by infer_instance), rfl, ?_⟩
        exact q (.leaf "pairs" [1 + x4]) _ _ (by ac_rfl) (hR4.same (by ac_rfl)) ⟨p4, rfl, (by infer_instance)⟩ (good_pairs (by omega) (by omega))
      · refine ⟨_, _, _, _, rfl, rfl, (by infer_instance), rfl, ?_⟩
        exact q (.leaf "stride" [1]) _ _ (by ac_rfl) (hR4.same (by ac_rfl)) ⟨p5, rfl, (by infer_instance)⟩ (good_stride (by omega) (by omega))
      · refine ⟨_, _, _, _, rfl, rfl, (by infer_instance), rfl, ?_⟩
        exact q (.leaf "next" [1]) _ _ (by ac_rfl) (hR4.same (by ac_rfl)) ⟨p6, rfl, (by infer_instance)⟩ (good_next (by omega) (by omega))
end
end St

namespace St
open PySem PySem.Spec PyProof.Rows L2
theorem eqV_int (a b : Int) : eqV (.int a) (.int b) = decide (a = b) := by
  show (a == b) = _
  exact Bool.beq_eq_decide_eq ..
theorem inV_ints (g : Int) : ∀ l : List Int, inV (.int g) (l.map V.int) = decide (g ∈ l)
  | [] => by simp [inV]
  | a :: r => by
    have ih := inV_ints g r
    unfold inV at ih ⊢
    rw [List.map_cons, List.any_cons, ih, eqV_int]
    by_cases c : a = g
    · subst c; simp
    · by_cases d : g ∈ r
      · simp [c, d]
      · simp [c, d, Ne.symm c]
theorem flat_ints : ∀ l : List Int, (l.map V.int).all flatV = true
  | [] => rfl
  | _ :: r => by rw [List.map_cons, List.all_cons, flat_ints r]; rfl
theorem at_ints {l : List Int} {i : Nat} {y : V} (h : (l.map V.int)[i]? = some y) : ∃ x, y = .int x ∧ l[i]? = some x ∧ l.take (i + 1) = l.take i ++ [x] := by
  rw [List.getElem?_map] at h
  cases e : l[i]? with
  | none => rw [e] at h; cases h
  | some m =>
    rw [e] at h
    cases Option.some.inj h
    exact ⟨m, rfl, rfl, by rw [List.take_add_one, e]; rfl⟩
theorem filter_snoc {α : Type} (f : α → Bool) (l : List α) (x : α) : (l ++ [x]).filter f = l.filter f ++ if f x then [x] else [] := by
  rw [List.filter_append, List.filter_cons]
  split <;> simp
theorem samex_mut {r : Addr} {H H' : Hp} {p : Addr} {o : HO} (e : SameX r H H') (h : H p = none) : SameX r H (upd H' p o) := fun a u n ha => by
  rw [upd_ne (ne_of_none ha h)]
  exact e a u n ha
theorem dp_ints {K : PySem.W.Frag} {H : Hp} {p : Addr} {ns : List Int} (h : SqL K H p (ns.map V.int)) : Dp K H (.ref p) (.list (ns.map PyData.int)) := by
  refine .lst h ?_
  have : ∀ l : List Int, DpAll K H (l.map V.int) (l.map PyData.int) := by
    intro l
    induction l with
    | nil => exact .nil
    | cons a r ih => exact .cons (.int a) ih
  exact this ns
theorem lay_ints (ns : List Int) : SeqAt.shaped (.list (ns.map PyData.int)) = true := by
  have h1 : ∀ l : List Int, PyData.depthAll (l.map PyData.int) = 0 := by
    intro l
    induction l with
    | nil => rfl
    | cons a r ih => simp [PyData.depthAll, PyData.depth, ih]
  have h2 : ∀ l : List Int, PyData.canLayAll0 (l.map PyData.int) = true := by
    intro l
    induction l with
    | nil => rfl
    | cons a r ih => simp [PyData.canLayAll0, PyData.canLay0, ih]
  unfold SeqAt.shaped
  rw [Bool.and_eq_true]
  refine ⟨?_, decide_eq_true ?_⟩
  · simp only [PyData.canLay0]
    exact h2 ns
  · simp only [PyData.depth]
    rw [h1 ns]
    decide
theorem eqv_ints (a b : List Int) : PyData.eqv (.list (a.map PyData.int)) (.list (b.map PyData.int)) = decide (a = b) := by
  simp only [PyData.eqv]
  induction a generalizing b with
  | nil =>
    cases b with
    | nil => simp [PyData.eqvAll]
    | cons y ys => simp [PyData.eqvAll]
  | cons x xs ih =>
    cases b with
    | nil => simp [PyData.eqvAll]
    | cons y ys =>
      simp only [List.map_cons, PyData.eqvAll, PyData.eqv, ih ys, Bool.beq_eq_decide_eq]
      by_cases c : x = y
      · subst c; simp
      · simp [c]
theorem atI_ints {ns : List Int} {x : Int} (h0 : 0 ≤ x) (h1 : x < (ns.length : Nat)) : ∃ y, atI (ns.map V.int) x = some (.int y) ∧ ns[x.toNat]? = some y := by
  obtain ⟨k, rfl⟩ : ∃ k : Nat, x = (k : Int) := ⟨x.toNat, by omega⟩
  have hk : k < ns.length := by omega
  exact ⟨ns[k], atI_nat (by rw [List.getElem?_map, List.getElem?_eq_getElem hk]; rfl), by rw [Int.toNat_natCast, List.getElem?_eq_getElem hk]⟩
theorem cut_to {xs : List V} {k : Int} (h : 0 ≤ k) : cutV xs none (some k) = xs.take k.toNat := by
  obtain ⟨m, rfl⟩ : ∃ m : Nat, k = (m : Int) := ⟨k.toNat, by omega⟩
  unfold cutV
  rw [HT.sIx_none, HT.sIx_nat, List.drop_zero, Int.toNat_natCast]
  by_cases c : m ≤ xs.length
  · rw [Nat.min_eq_left c]; rfl
  · rw [Nat.min_eq_right (by omega), List.take_of_length_le (by omega), List.take_of_length_le (by omega)]
theorem cut_from {xs : List V} {k : Int} (h : 0 ≤ k) : cutV xs (some k) none = xs.drop k.toNat := by
  obtain ⟨m, rfl⟩ : ∃ m : Nat, k = (m : Int) := ⟨k.toNat, by omega⟩
  unfold cutV
  rw [HT.sIx_none, HT.sIx_nat, Int.toNat_natCast]
  by_cases c : m ≤ xs.length
  · rw [Nat.min_eq_left c, List.take_of_length_le (by rw [List.length_drop]; exact Nat.le_refl _)]
  · rw [Nat.min_eq_right (by omega), List.drop_of_length_le (Nat.le_refl _), List.drop_of_length_le (by omega), List.take_nil]
theorem at_last {ps : List Int} {p : Int} (h : ps.getLast? = some p) : atI (ps.map V.int) (-1) = some (.int p) := by
  have hp : ps ≠ [] := by rintro rfl; cases h
  have hl : 0 < ps.length := List.length_pos_iff.mpr hp
  unfold atI ixN
  rw [List.length_map, if_neg (by decide), if_pos (by omega)]
  show (ps.map V.int)[_]? = _
  rw [List.getElem?_map]
  have e : (-1 + (ps.length : Int)).toNat = ps.length - 1 := by omega
  rw [List.getLast?_eq_getElem?] at h
  rw [show ps[_]? = ps[ps.length - 1]? from congrArg (fun z => ps[z]?) (by omega), h]
  rfl
theorem at_ps {ps : List Int} {i : Nat} {z : Int} (e : z = (i : Int)) (h : i < ps.length) : atI (ps.map V.int) z = some (.int (ps.getD i 0)) := by
  subst e
  refine atI_nat ?_
  rw [List.getElem?_map, List.getD_eq_getElem?_getD, List.getElem?_eq_getElem h]
  rfl
theorem flat_rep (x : Int) : ∀ k : Nat, (List.replicate k [V.int x]).flatten = (List.replicate k x).map V.int
  | 0 => rfl
  | k + 1 => by rw [List.replicate_succ, List.flatten_cons, flat_rep x k, List.replicate_succ]; rfl
theorem sl_listK {X : Cx} {K : PySem.W.Frag} (h : X.K = K := by rfl) : SlR X (rSlL K) := h ▸ sl_list
theorem paired_r {α β : Type} {F : α → β → Prop} : ∀ {l₁ : List α} {l₂ : List β}, Paired F l₁ l₂ → ∀ b ∈ l₂, ∃ a, F a b
  | _, _, .nil, _, hb => nomatch hb
  | _, _, .cons h t, b, hb => by
    rcases List.mem_cons.mp hb with rfl | hb
    · exact ⟨_, h⟩
    · exact paired_r t b hb
theorem paired_l {α β : Type} {F : α → β → Prop} : ∀ {l₁ : List α} {l₂ : List β}, Paired F l₁ l₂ → ∀ a ∈ l₁, ∃ b, F a b
  | _, _, .nil, _, hb => nomatch hb
  | _, _, .cons h t, b, hb => by
    rcases List.mem_cons.mp hb with rfl | hb
    · exact ⟨_, h⟩
    · exact paired_l t b hb
end St

namespace St
open PySem PySem.Spec PyProof.Rows L2
section
variable {X : Cx} {es : List Expr} {t : TA} {pos : Pos}
/-- a tuple's display; its object bears no dict -/
def tTupF (t : TA) : TE := fun σ H Q => t σ H fun xs H1 => xs.length ≤ sizeLine ∧ ∀ p (o : Obj), H1 p = none → o.dict = none → Q (.ref p) (upd H1 p (.frz o (.tup xs)))
theorem pe_tupF {x1} (h : PA X es t) : PE X (.Tuple es x1 pos) (tTupF t) := by
  refine ⟨fun pins s σ H Q I hq => wpAny_Tuple_spliced (thn (h.run pos pins s σ H _ I hq) fun us s1 hz => ?_)⟩
  obtain ⟨xs, H1, I1, r, z, q⟩ := hz
  refine ⟨by rw [← r.length]; exact z, ?_⟩
  have new : (s1.heap.push { cls := .type "tuple", data := .seq us.toArray }).get? s1.heap.objs.size = some { cls := .type "tuple", data := .seq us.toArray } := Heap.get?_push_size _ rfl
  exact ⟨.ref s1.heap.objs.size, _, I1.laid (t' := s1.toks) (o := .frz { cls := .type "tuple", data := .seq us.toArray } (.tup xs)) (fun b u e => Heap.get?_push_of_some _ e) (Nat.le_refl _) ⟨new, z, us, r, _, new, rfl, _, rfl⟩, rfl, q _ _ (I1.hok.fresh (Nat.le_refl _)) rfl⟩
/-- tuple(xs) of a list; its object bears no dict -/
def rTupF (K : PySem.W.Frag) : List V → Hp → VK → Prop := fun xs H Q => ∃ p ys, xs = [.ref p] ∧ SqL K H p ys ∧ ∀ l (o : Obj), H l = none → o.dict = none → Q (.ref l) (upd H l (.frz o (.tup ys)))
theorem call_tupF : CallR X (.type "tuple") (rTupF X.K) := by
  intro pins s σ H xs us Q I r h
  obtain ⟨p, ys, rfl, hq, q⟩ := h
  obtain ⟨u, rfl, rx⟩ := vals1 r
  cases rx
  obtain ⟨its, r', pl, hz⟩ := I.list hq
  have hl := r'.length
  refine call_tuple_list pl.isList (fun h' kp => ?_) (by simp only [List.size_toArray] <;> omega)
  have I1 : Inv X pins σ H { s with heap := h' } := I.kept (t' := s.toks) kp
  have new : (h'.push { cls := .type "tuple", data := .seq its.toArray }).get? h'.objs.size = some { cls := .type "tuple", data := .seq its.toArray } := Heap.get?_push_size _ rfl
  exact ⟨.ref h'.objs.size, _, I1.laid (t' := s.toks) (o := .frz { cls := .type "tuple", data := .seq its.toArray } (.tup ys)) (fun b o e => Heap.get?_push_of_some _ e) (Nat.le_refl _) ⟨new, hz, its, r', _, new, rfl, _, rfl⟩, rfl, q _ _ (I1.hok.fresh (Nat.le_refl _)) rfl⟩
/-! ### dict(t), t a tuple of pairs -/
theorem pairs_tab {pins : List (Addr × Obj)} {σ : L2.St} {H : Hp} {s : Shared} (I : L2.Inv X pins σ H s) : ∀ {ps : List Addr} {kvs : List (Key × V)}, Paired (fun p kv => SqT X.K H p [kV kv.1, kv.2]) ps kvs →
    ∃ (prs : List (Key × Value)) (us : List Value), KV kvs prs ∧ prs.length = ps.length ∧ us.length = ps.length ∧ ∀ (j : Nat) (q : Key × Value) (b : Addr) (u : Value), prs[j]? = some q → ps[j]? = some b → us[j]? = some u → IsTup s.heap b #[u, q.2] ∧ keyIs q.1 u = true
  | _, _, .nil => ⟨[], [], .nil, rfl, rfl, fun j q b u e => by simp at e⟩
  | _, _, .cons (a := p) (b := kv) h t => by
    obtain ⟨prs, us, r, h1, h2, h3⟩ := pairs_tab I t
    obtain ⟨its, rv, ht, _⟩ := I.tuple h
    obtain ⟨u, y, ei, ru, ry⟩ := vals2 rv
    subst ei
    refine ⟨(kv.1, y) :: prs, u :: us, .cons ⟨rfl, ry⟩ r, congrArg (· + 1) h1, congrArg (· + 1) h2, fun j q b u' e1 e2 e3 => ?_⟩
    cases j with
    | zero =>
      cases Option.some.inj e1
      cases Option.some.inj e2
      cases Option.some.inj e3
      exact ⟨ht, kV_is (P := X.prog) (w := X.w) ru⟩
    | succ j => exact h3 j q b u' e1 e2 e3
def rDictT (K : PySem.W.Frag) : List V → Hp → VK → Prop := fun xs H Q => ∃ (a : Addr) (o : Obj) (ps : List Addr) (kvs : List (Key × V)), xs = [.ref a] ∧ H a = some (.frz o (.tup (ps.map V.ref))) ∧ o.dict = none ∧ Paired (fun p kv => SqT K H p [kV kv.1, kv.2]) ps kvs ∧
  ∀ p, H p = none → Q (.ref p) (upd H p (.dK (mergeK [] kvs)))
theorem call_dictT (hcalm : X.calm = true) : CallR X (.type "dict") (rDictT X.K) := by
  intro pins s σ H xs us Q I r h
  obtain ⟨a, o, ps, kvs, rfl, ha, hd, hp, q⟩ := h
  obtain ⟨u, rfl, rx⟩ := vals1 r
  cases rx
  obtain ⟨ho, hz, its, rv, o', ho', hc, n, hdat⟩ := (show ObjOk X.prog X.w H s.heap a (.frz o (.tup (ps.map V.ref))) from I.hok a _ ha)
  have eo : o' = o := Option.some.inj (ho'.symm.trans ho)
  subst eo
  have ei := refs_at rv
  subst ei
  rw [List.length_map] at hz
  obtain ⟨prs, ks, rel, l1, l2, l3⟩ := pairs_tab I hp
  have lz : (ks.zip (prs.map (·.2))).length = ps.length := by rw [List.length_zip, List.length_map, l1, l2, Nat.min_self]
  have PI : PairItems s.heap (ps.map Value.ref).toArray (fun j => ps.getD j 0) (ks.zip (prs.map (·.2))) := by
    refine ⟨by rw [lz]; simp, fun j k v e => ?_⟩
    obtain ⟨e1, e2⟩ := List.getElem?_zip_eq_some.mp e
    have hj : j < ps.length := by
      rw [← l2]
      exact (List.getElem?_eq_some_iff.mp e1).1
    have e3 : ps[j]? = some (ps.getD j 0) := by rw [List.getD_eq_getElem?_getD, List.getElem?_eq_getElem hj]; rfl
    rw [List.getElem?_map] at e2
    cases e4 : prs[j]? with
    | none => rw [e4] at e2; cases e2
    | some p =>
      rw [e4] at e2
      cases Option.some.inj e2
      refine ⟨by rw [List.getElem?_toArray, List.getElem?_map, e3]; rfl, .inl ?_⟩
      exact (l3 j p _ k e4 e3 e1).1
  refine _root_.PySem.call_dict_pairs (A := X.A) (knd := mixKind X.prog X.w) (kvs := prs) (PairArg.tuple a (ps.map Value.ref).toArray (fun j => ps.getD j 0) (ks.zip (prs.map (·.2)))) (I.ok.hd hcalm) ⟨⟨o', n, ho, hc, hd, hdat⟩, PI⟩ ⟨by rw [lz, l1], fun i key v e => ?_⟩ (by rw [lz]; exact hz) fun h' tk hd' k => ?_
  · obtain ⟨e1, e2⟩ := List.getElem?_zip_eq_some.mp (show (ks.zip (prs.map (·.2)))[i]? = some (key, v) from e)
    have hj : i < ps.length := by
      rw [← l2]
      exact (List.getElem?_eq_some_iff.mp e1).1
    rw [List.getElem?_map] at e2
    cases e4 : prs[i]? with
    | none => rw [e4] at e2; cases e2
    | some p =>
      rw [e4] at e2
      cases Option.some.inj e2
      exact ⟨p.1, rfl, (l3 i p _ key e4 (List.getElem?_eq_getElem hj) e1).2⟩
  · have big : (s.heap.objs.size == sysModules) = false := beq_eq_false_iff_ne.mpr (Nat.ne_of_gt I.big)
    have hl : (mergeK [] kvs).length ≤ sizeLine := by
      have z := length_mergeK kvs []
      rw [List.length_nil, Nat.zero_add, rel.length, l1] at z
      exact Nat.le_trans z hz
    exact ⟨.ref s.heap.objs.size, _, I.laid (t' := tk) (o := .dK (mergeK [] kvs)) (fun b o e => k b o (fun z => nomatch z) e) (Nat.le_refl _) ⟨hl, big, merged [] prs, KV.merge rel .nil, hd'⟩, rfl, q _ (I.hok.fresh (Nat.le_refl _))⟩
end
end St

/-! ### d.items(), sorted of them: keys ints, all unlike -/
namespace St
open PySem PySem.Spec PyProof.Rows L2
theorem pairs_get {P : Program} {w : World} : ∀ {es : List DictEntry} {vs : List (Key × Value)} {j : Nat} {e : DictEntry}, Pairs (mixKind P w) es vs → es[j]? = some e → ∃ kv, vs[j]? = some kv ∧ keyIs kv.1 e.key = true ∧ e.val = kv.2
  | _, _, j, e, .nil, h => by simp at h
  | _, _, 0, e, .cons h1 h2 _, h => by cases Option.some.inj h; exact ⟨_, rfl, h1, h2⟩
  | _, _, j + 1, e, .cons _ _ r, h => pairs_get (j := j) r h
theorem kv_get : ∀ {kvs : List (Key × V)} {vs : List (Key × Value)} {j : Nat} {q : Key × Value}, KV kvs vs → vs[j]? = some q → ∃ p, kvs[j]? = some p ∧ p.1 = q.1 ∧ RelV p.2 q.2
  | _, _, j, q, .nil, h => by simp at h
  | _, _, 0, q, .cons h1 _, h => by cases Option.some.inj h; exact ⟨_, rfl, h1.1, h1.2⟩
  | _, _, j + 1, q, .cons _ r, h => kv_get (j := j) r h
def rItemsK : V → List V → Hp → VK → Prop := fun x xs H Q => ∃ (a : Addr) (kvs : List (Key × V)), x = .ref a ∧ xs = [] ∧ H a = some (.dK kvs) ∧ ∀ p, H p = none → Q (.ref p) (upd H p (DX.itemsO p a))
section
variable {X : Cx}
theorem mt_itemsK : MtR X "dict.items" rItemsK := by
  intro pins s σ H x xs v us Q I rx rxs h
  obtain ⟨a, kvs, rfl, rfl, ha, q⟩ := h
  cases rx
  cases rxs
  obtain ⟨z, hd, vs, rel, o, es, ep, ho, hx, hdat, _⟩ := dk_of I.hok ha
  refine DT.callItems (es := es) (ep := ep) hd ⟨o, ho, hx, hdat⟩ ?_
  exact ⟨.ref s.heap.objs.size, _, I.laid (t' := s.toks) (o := DX.itemsO s.heap.objs.size a) (fun b u e => Heap.get?_push_of_some _ e) (Nat.le_refl _) (DX.itemsO_ok (Heap.get?_push_size _ rfl)), rfl, q _ (I.hok.fresh (Nat.le_refl _))⟩
end
/-! the order of pairs whose first items are ints, all unlike -/
def intOf : Option Value → Int
  | some (.int i _) => i
  | _ => 0
/-- the first int of the pair v, read off the heap -/
def fst1 (h : Heap) (v : Value) : Int := intOf (DT.seqAt0 h (DT.refOf (some v)))
/-- v is a pair (k, y) -/
def PairK (h : Heap) (v : Value) (k : Int) (y : Value) : Prop := ∃ (a : Addr) (t : Tok), v = .ref a ∧ IsTup h a #[.int k t, y]
theorem PairK.fst {h : Heap} {v : Value} {k : Int} {y : Value} (x : PairK h v k y) : fst1 h v = k := by
  obtain ⟨a, t, rfl, p⟩ := x
  show intOf (DT.seqAt0 h a) = k
  rw [DT.seqAt0_of p]
  rfl
theorem PairK.keeps {h h' : Heap} {v : Value} {k : Int} {y : Value} (x : PairK h v k y) (f : ∀ b o, h.get? b = some o → o.cls = .type "tuple" → h'.get? b = some o) : PairK h' v k y := by
  obtain ⟨a, t, e, o, ho, hc, r⟩ := x
  exact ⟨a, t, e, o, f _ _ ho hc, hc, r⟩
section
variable {prog : Program} {w : World} {A : Around} {E : Value → Shared → Prop} {s : Shared}
theorem eqBool_self {v : Value} {Q : Bool → Shared → Prop} (h : Q true s) : wpAny (model prog w) A (eqBool v v) Q E s := by
  unfold eqBool
  refine wpAny_holding ?_
  rw [if_pos (beq_self_eq_true v)]
  exact wpAny_bind (wpAny_rule (wpAny_pure h))
theorem swo_fst (k : Value → Int) : SrtO.Swo fun v u => decide (k v < k u) := by
  refine ⟨fun x y h => ?_, fun x y z h1 h2 => ?_⟩
  · have a := of_decide_eq_true h
    exact decide_eq_false (by omega)
  · have a := of_decide_eq_false h1
    have b := of_decide_eq_false h2
    exact decide_eq_false (by omega)
theorem firsts_K {h : Heap} : ∀ vs : List Value, (∀ v ∈ vs, ∃ k y, PairK h v k y) → ∃ fs : List Value, PySem.W.KatTups h vs fs ∧ fs.length = vs.length ∧ ∀ f ∈ fs, ∃ i t, f = Value.int i t
  | [], _ => ⟨[], PySem.W.KatTups.nil, rfl, fun f hf => by simp at hf⟩
  | v :: vs, x => by
    obtain ⟨fs, k, hl, hi⟩ := firsts_K vs fun u hu => x u (List.mem_cons_of_mem _ hu)
    obtain ⟨i, y, a, t, rfl, o, ho, hc, n, hd⟩ := x v (List.mem_cons_self ..)
    refine ⟨.int i t :: fs, PySem.W.KatTups.cons ho hc hd rfl k, congrArg (· + 1) hl, fun f hf => ?_⟩
    rcases List.mem_cons.mp hf with rfl | hf
    · exact ⟨i, t, rfl⟩
    · exact hi f hf
/-- any two of them compare by their first items; the very same one with itself -/
theorem cmp_K {vs : List Value} (hp : ∀ v ∈ vs, ∃ k y, PairK s.heap v k y) (hu : ∀ v ∈ vs, ∀ u ∈ vs, fst1 s.heap v = fst1 s.heap u → v = u) :
    SrtO.Cmp prog w A s (tuples' true) (fun p => p.1 ∈ vs) (SrtO.lt2 fun v u => decide (fst1 s.heap v < fst1 s.heap u)) := by
  intro p q hm hm'
  obtain ⟨k1, y1, h1⟩ := hp _ hm
  obtain ⟨k2, y2, h2⟩ := hp _ hm'
  have f1 := h1.fst
  have f2 := h2.fst
  have hu' := hu _ hm _ hm'
  show wpAny (model prog w) A (keyLt' (tuples' true) p.1 q.1) (fun r s' => s' = s ∧ r = decide (fst1 s.heap p.1 < fst1 s.heap q.1)) (fun _ _ => False) s
  obtain ⟨a, t, e, o, ho, hc, n, hd⟩ := h1
  obtain ⟨a', t', e', o', ho', hc', n', hd'⟩ := h2
  rw [f1, f2] at hu' ⊢
  rw [e, e']
  refine PySem.W.kat_lt ho hd ho' hd' ?_
  show PySem.W.KatLex prog w A true false _ [(.int k1 t, .int k2 t'), (y1, y2)] 0 s
  refine PySem.W.kat_cons (SeqAt.EqAt.int_int k1 t k2 t' prog w _ _ ?_)
  refine PySem.W.kat_go (fun e1 => ?_) (fun e1 => ?_)
  · have ek : k1 = k2 := by simpa using e1
    have ea : a = a' := by
      have z := hu' ek
      rw [e, e'] at z
      exact Value.ref.inj z
    subst ea
    have eo : o = o' := Option.some.inj (ho.symm.trans ho')
    subst eo
    have ed := hd.symm.trans hd'
    injection ed with ed _
    have ey : y1 = y2 := by
      have z := congrArg Array.toList ed
      simp at z
      exact z.2
    subst ey
    refine PySem.W.kat_yes (PySem.W.kat_cons (eqBool_self ?_))
    refine PySem.W.kat_yes (PySem.W.kat_nil ⟨rfl, ?_⟩)
    exact (decide_eq_false (by omega)).symm
  · exact PySem.W.kat_no (PyProof.Rows.oneLt_int ⟨rfl, rfl⟩)
theorem sortable_K {a : Addr} {vs : List Value} (h0 : 0 < vs.length) (hp : ∀ v ∈ vs, ∃ k y, PairK s.heap v k y) (hu : ∀ v ∈ vs, ∀ u ∈ vs, fst1 s.heap v = fst1 s.heap u → v = u) (ha : ∀ o, s.heap.get? a = some o → o.cls ≠ .type "tuple") :
    SrtO.SortableO prog w A s a vs fun v u => decide (fst1 s.heap v < fst1 s.heap u) := by
  intro h' keep
  have kp : ∀ b o, s.heap.get? b = some o → o.cls = .type "tuple" → h'.get? b = some o := fun b o e c => keep b o (fun z => by subst z; exact ha o e c) e
  have hp' : ∀ v ∈ vs, ∃ k y, PairK h' v k y := fun v hm => let ⟨k, y, x⟩ := hp v hm; ⟨k, y, x.keeps kp⟩
  have same : ∀ v ∈ vs, fst1 h' v = fst1 s.heap v := fun v hm => by
    obtain ⟨k, y, x⟩ := hp v hm
    rw [x.fst, (x.keeps kp).fst]
  obtain ⟨fs, h1, h2, h3⟩ := firsts_K vs hp'
  refine ⟨tuples' true, fun Q E hq => ?_, fun p q hm hm' => ?_⟩
  · refine PySem.W.kat_kind (T := .type "int") h1 (by omega) (fun f hm => ?_) (by rfl) ?_
    · obtain ⟨x, t, rfl⟩ := h3 f hm
      exact PySem.W.Looks.now
    · have e : (Value.type "int" != Value.type "tuple") = true := by first | decide +kernel | rfl | decide
      rw [e]
      exact hq
  · have c := cmp_K (prog := prog) (w := w) (A := A) (s := { s with heap := h' }) hp' (fun v hv u hw e => hu v hv u hw (by rw [← same v hv, ← same u hw]; exact e)) p q hm hm'
    have e : (SrtO.lt2 fun v u => decide (fst1 s.heap v < fst1 s.heap u)) p q = (SrtO.lt2 fun v u => decide (fst1 h' v < fst1 h' u)) p q := by
      show decide (fst1 s.heap p.1 < fst1 s.heap q.1) = decide (fst1 h' p.1 < fst1 h' q.1)
      rw [same _ hm, same _ hm']
    rw [e]
    exact c
end
end St

namespace St
open PySem PySem.Spec PyProof.Rows L2
def rSortItK : List V → Hp → VK → Prop := fun vs H Q => ∃ (p a : Addr) (ks : List (Int × V)), vs = [.ref p] ∧ H p = some (DX.itemsO p a) ∧ H a = some (.dK (ks.map fun e => (Sum.inl e.1, e.2))) ∧ (ks.map (·.1)).Nodup ∧
  ∀ (H' : Hp) (l : Addr) (ps : List (Addr × Int × V)), Same H H' → H l = none → (ps.map (·.2)).Perm ks → (ps.map (·.2.1)).Pairwise (· < ·) → H' l = some (.lst (ps.map fun z => V.ref z.1)) → (∀ z ∈ ps, H' z.1 = some (.tup [.int z.2.1, z.2.2])) → Q (.ref l) H'
theorem map_zip1 {α β γ : Type} (f : α → γ) : ∀ (as : List α) (ks : List β), as.length = ks.length → (as.zip ks).map (fun z => f z.1) = as.map f
  | [], _, _ => rfl
  | a :: as, [], h => by simp at h
  | a :: as, k :: ks, h => by
    rw [List.zip_cons_cons, List.map_cons, List.map_cons, map_zip1 f as ks (by simpa using h)]
section
variable {X : Cx}
theorem cr_sortedItemsK (hc : X.calm = true) : CallR X (.builtin "sorted") rSortItK := by
  intro pins s σ H xs us Q I r h
  obtain ⟨p, a, ks, rfl, hp, ha, hnd, q⟩ := h
  obtain rfl := Vals.ref1 r
  have view : s.heap.IsItemsView p a := (show ObjOk X.prog X.w H s.heap p (DX.itemsO p a) from I.hok p _ hp).1
  obtain ⟨z, hd, vs, rel, o, es, ep, ho, hx, hdat, _, prs, _⟩ := dk_of I.hok ha
  have l1 : ks.length = vs.length := by
    have z := Paired.length rel
    rwa [List.length_map] at z
  have l2 : es.size = vs.length := by
    have z := prs.length
    rwa [Array.length_toList] at z
  rw [List.length_map] at z
  refine DT.sortedI (es := es) (ep := ep) (I.ok.hd hc) view ⟨o, ho, hx, hdat⟩ (by omega) fun h' tk as hk hlt hl hG => ?_
  have lak : as.length = ks.length := by omega
  have nd : as.Nodup := List.Pairwise.imp (fun h => Nat.ne_of_lt h) hG.rise
  have made : ∀ (j : Nat) (b : Addr), as[j]? = some b → ∃ (e : Int × V) (y : Value) (t : Tok), ks[j]? = some e ∧ RelV e.2 y ∧ h'.get? b = some { cls := .type "tuple", data := .seq #[Value.int e.1 t, y] } := by
    intro j b hj
    obtain ⟨en, he, hg⟩ := hG.pairs j b hj
    obtain ⟨kv, e1, e2, e3⟩ := pairs_get prs (by rw [Array.getElem?_toList]; exact he)
    obtain ⟨pv, f1, f2, f3⟩ := kv_get rel e1
    rw [List.getElem?_map] at f1
    cases g : ks[j]? with
    | none => rw [g] at f1; cases f1
    | some e =>
      rw [g] at f1
      cases Option.some.inj f1
      have f2' : kv.1 = Sum.inl e.1 := f2.symm
      rw [f2'] at e2
      rcases keyIs_shape e2 with ⟨i, t, h1, h2⟩ | ⟨x, t, h1, _⟩
      · cases h1
        refine ⟨e, kv.2, t, rfl, f3, ?_⟩
        rw [hg, h2, e3]
      · cases h1
  -- the heap of the sort
  have hob : (h'.push { cls := .type "list", data := .seq (as.map Value.ref).toArray }).get? h'.objs.size = some (seqObj "list" (as.map Value.ref).toArray 0) := Heap.get?_push_size _ rfl
  have ne0 : ∀ b o, h'.get? b = some o → b ≠ h'.objs.size := fun b o e => Nat.ne_of_lt (Heap.lt_size e)
  have ka : ∀ b o, h'.get? b = some o → (h'.push { cls := .type "list", data := .seq (as.map Value.ref).toArray }).get? b = some o := fun b o e => Heap.get?_push_of_some _ e
  generalize (h'.push { cls := .type "list", data := .seq (as.map Value.ref).toArray }) = h2 at hob ka ⊢
  have pk : ∀ (j : Nat) (b : Addr), as[j]? = some b → ∃ (e : Int × V) (y : Value), ks[j]? = some e ∧ RelV e.2 y ∧ PairK h2 (.ref b) e.1 y := by
    intro j b hj
    obtain ⟨e, y, t, h1, h3, h4⟩ := made j b hj
    exact ⟨e, y, h1, h3, b, t, rfl, _, ka _ _ h4, rfl, _, rfl⟩
  have at_ : ∀ v ∈ as.map Value.ref, ∃ (j : Nat) (b : Addr) (e : Int × V) (y : Value), v = .ref b ∧ as[j]? = some b ∧ ks[j]? = some e ∧ PairK h2 v e.1 y := by
    intro v hv
    obtain ⟨b, hb, rfl⟩ := List.mem_map.mp hv
    obtain ⟨j, hj⟩ := List.mem_iff_getElem?.mp hb
    obtain ⟨e, y, h1, _, h3⟩ := pk j b hj
    exact ⟨j, b, e, y, rfl, hj, h1, h3⟩
  have uq : ∀ v ∈ as.map Value.ref, ∀ u ∈ as.map Value.ref, fst1 h2 v = fst1 h2 u → v = u := by
    intro v hv u hu e
    obtain ⟨j, b, c, y, rfl, h1, h3, h4⟩ := at_ v hv
    obtain ⟨j', b', c', y', rfl, h1', h3', h4'⟩ := at_ u hu
    rw [h4.fst, h4'.fst] at e
    have k1 : (ks.map (·.1))[j]? = some c.1 := by rw [List.getElem?_map, h3]; rfl
    have k2 : (ks.map (·.1))[j']? = some c.1 := by rw [List.getElem?_map, h3', e]; rfl
    have ej : j = j' := (List.getElem?_inj (List.getElem?_eq_some_iff.mp k1).1 hnd).mp (k1.trans k2.symm)
    subst ej
    cases Option.some.inj (h1.symm.trans h1')
    rfl
  have hsz : (as.map Value.ref).length ≤ sizeLine := by rw [List.length_map, lak]; exact z
  refine wpAny_call_entry PyProof.Rows.slot_list_sort ⟨_, hob, rfl⟩ PyProof.Rows.entry_list_sort
    (SrtO.list_sort_ord (s := { s with heap := h2, toks := tk }) (swo_fst (fst1 h2)) hob hsz (fun h2' => ?_) fun out o1 o2 => ⟨.none, rfl, ?_⟩) (PyProof.Rows.args_list_sort _)
  · refine sortable_K (s := { s with heap := h2, toks := tk }) (by omega) (fun v hv => ?_) uq (fun o e c => ?_)
    · obtain ⟨j, b, c, y, _, _, _, h4⟩ := at_ v hv
      exact ⟨c.1, y, h4⟩
    · cases Option.some.inj (e.symm.trans hob)
      exact absurd (Value.type.inj c) (by decide)
  · show EP X pins σ Q (.ref h'.objs.size) { s with heap := sortedHeap h2 h'.objs.size (as.map Value.ref) out.toArray, toks := tk }
    obtain ⟨zs, pz, ez⟩ := perm_lift (fun z : Addr × Int × V => Value.ref z.1) o2.perm (as.zip ks) (map_zip1 Value.ref as ks lak)
    have idx : ∀ z ∈ zs, ∃ j : Nat, as[j]? = some z.1 ∧ ks[j]? = some z.2 := by
      intro z' hz'
      obtain ⟨j, hj⟩ := List.mem_iff_getElem?.mp (pz.mem_iff.mp hz')
      exact ⟨j, List.getElem?_zip_eq_some.mp hj⟩
    have hperm : (zs.map (·.2)).Perm ks := by
      have e := pz.map (·.2)
      have m2 : (as.zip ks).map (·.2) = ks := List.map_snd_zip (by rw [lak]; exact Nat.le_refl _)
      rwa [m2] at e
    have key : ∀ z ∈ zs, fst1 h2 (Value.ref z.1) = z.2.1 := by
      intro z' hz'
      obtain ⟨j, j1, j2⟩ := idx z' hz'
      obtain ⟨e, y, h1, _, h3⟩ := pk j z'.1 j1
      have ee : e = z'.2 := Option.some.inj (h1.symm.trans j2)
      rw [h3.fst, ee]
    have hnd2 : (zs.map (·.2.1)).Nodup := by
      have e := (hperm.map (·.1)).nodup_iff.mpr hnd
      rwa [List.map_map] at e
    have hsort : (zs.map (·.2.1)).Pairwise (· < ·) := by
      have o3 : (zs.map fun z => Value.ref z.1).Pairwise (fun x y => decide (fst1 h2 y < fst1 h2 x) = false) := by rw [ez]; exact o1
      rw [List.pairwise_map] at o3
      rw [List.pairwise_map]
      have hnd3 := List.pairwise_map.mp hnd2
      refine List.Pairwise.imp_of_mem (fun {x y} hx hy h => ?_) (o3.and hnd3)
      have a1 := of_decide_eq_false h.1
      rw [key x hx, key y hy] at a1
      have a2 := h.2
      omega
    -- behind the sort
    have kF : ∀ b o, b ≠ h'.objs.size → h2.get? b = some o → (sortedHeap h2 h'.objs.size (as.map Value.ref) out.toArray).get? b = some o := fun b o hb e => (PyProof.Rows.sortedHeap_old hb (Heap.lt_size e)).trans e
    have kS : ∀ b o, s.heap.get? b = some o → (sortedHeap h2 h'.objs.size (as.map Value.ref) out.toArray).get? b = some o := fun b o e => kF b o (ne0 _ _ (hk b o e)) (ka _ _ (hk b o e))
    obtain ⟨eF, heF⟩ := PyProof.Rows.sortedHeap_at (vs := as.map Value.ref) (out := out.toArray) hob
    have I1 : Inv X pins σ H { s with heap := sortedHeap h2 h'.objs.size (as.map Value.ref) out.toArray, toks := tk } := I.kept (t' := tk) kS
    have hn0 : H h'.objs.size = none := I.hok.fresh (Nat.le_of_lt hlt)
    have hlen : (zs.map fun z => V.ref z.1).length ≤ sizeLine := by
      have e := hperm.length_eq
      rw [List.length_map] at e
      rw [List.length_map, e]
      exact z
    have rv : Vals (zs.map fun z => V.ref z.1) out := by
      rw [← ez]
      exact vals_maps (fun z : Addr × Int × V => V.ref z.1) (fun z => Value.ref z.1) zs fun _ _ => rfl
    have I2 : Inv X pins σ (upd H h'.objs.size (.lst (zs.map fun z => V.ref z.1))) { s with heap := sortedHeap h2 h'.objs.size (as.map Value.ref) out.toArray, toks := tk } :=
      I1.take (h' := sortedHeap h2 h'.objs.size (as.map Value.ref) out.toArray) (t' := tk) (fun b ob _ e => e) (I.fpOk (Nat.le_of_lt hlt) hn0) ⟨hlen, out, eF, rv, heF⟩
    obtain ⟨H2, I3, g, qt⟩ := DX.takeT (P := fun b ys => ∃ (j : Nat) (e : Int × V), as[j]? = some b ∧ ks[j]? = some e ∧ ys = [.int e.1, e.2]) I as _ I2 nd fun b hb => by
      obtain ⟨j, hj⟩ := List.mem_iff_getElem?.mp hb
      obtain ⟨e, y, t, he, hy, hg⟩ := made j b hj
      have hbl : s.heap.objs.size ≤ b := Nat.le_of_lt (hG.above b hb)
      refine ⟨hbl, ?_, [.int e.1, e.2], ⟨j, e, hj, he, rfl⟩, fun H3 => ⟨(by show 2 ≤ sizeLine; decide), [Value.int e.1 t, y], .cons ⟨t, rfl⟩ (.cons hy .nil), ⟨_, kF _ _ (ne0 _ _ hg) (ka _ _ hg), rfl, 0, rfl⟩⟩⟩
      rw [upd_ne (ne0 _ _ hg)]
      exact I.hok.fresh hbl
    refine ⟨.ref h'.objs.size, H2, I3, rfl, q H2 h'.objs.size zs (fun b o e => g b o (by rw [upd_ne (ne_of_none e hn0)]; exact e)) hn0 hperm hsort (g _ _ upd_same) fun z' hz' => ?_⟩
    obtain ⟨i, i1, i2⟩ := idx z' hz'
    obtain ⟨ys, ⟨j, e, j1, j2, ev⟩, hH⟩ := qt z'.1 (List.mem_of_getElem? i1)
    have eij : i = j := (List.getElem?_inj (List.getElem?_eq_some_iff.mp i1).1 nd).mp (i1.trans j1.symm)
    subst eij
    have ee : e = z'.2 := Option.some.inj (j2.symm.trans i2)
    rw [ev, ee] at hH
    exact hH
end
end St

namespace St
open PySem PySem.Spec PyProof.Rows L2
/-! ### what a guesser knows -/
inductive Sg where
  | str (l : Option Int) (st t : Int)
  | prs (l : Option Int) (kn : List (Int × List Int))
  | both (a b : Sg)
def optV : Option Int → V
  | none => .non
  | some i => .int i
/-- what came behind what: its lists lie in tuples -/
def Ku (K : PySem.W.Frag) (H : Hp) (kn : List (Int × List Int)) (ku : List (Int × Addr)) : Prop := Paired (fun (e : Int × List Int) (f : Int × Addr) => e.1 = f.1 ∧ SqT K H f.2 (e.2.map V.int)) kn ku
/-- .. as it lies in a tuple q of pairs -/
def IsKn (K : PySem.W.Frag) (H : Hp) (kn : List (Int × List Int)) (q : Addr) : Prop :=
  ∃ (o : Obj) (ps : List Addr) (ku : List (Int × Addr)), H q = some (.frz o (.tup (ps.map V.ref))) ∧ o.dict = none ∧ Paired (fun (p : Addr) (e : Int × Addr) => SqT K H p [.int e.1, .ref e.2]) ps ku ∧ Ku K H kn ku
theorem Ku.imm {K : PySem.W.Frag} {H H' : Hp} {kn : List (Int × List Int)} {ku : List (Int × Addr)} (h : Ku K H kn ku) (e : Imm H H') : Ku K H' kn ku := Paired.mapP h fun _ _ z => ⟨z.1, e.t z.2⟩
def IsS (K : PySem.W.Frag) (H : Hp) : Sg → V → Prop
  | .str l st t, v => ∃ p, v = .ref p ∧ SqT K H p [optV l, .int st, .int t]
  | .prs l kn, v => ∃ p q, v = .ref p ∧ SqT K H p [optV l, .ref q] ∧ IsKn K H kn q
  | .both a b, v => ∃ p x y, v = .ref p ∧ SqT K H p [x, y] ∧ IsS K H a x ∧ IsS K H b y
theorem IsKn.imm {K : PySem.W.Frag} {H H' : Hp} {kn : List (Int × List Int)} {q : Addr} (h : IsKn K H kn q) (e : Imm H H') : IsKn K H' kn q := by
  obtain ⟨o, ps, ku, h1, h2, h3, h4⟩ := h
  exact ⟨o, ps, ku, e.frz _ _ _ h1, h2, Paired.mapP h3 fun _ _ z => e.t z, h4.imm e⟩
theorem IsS.imm {K : PySem.W.Frag} {H H' : Hp} : ∀ {s : Sg} {v : V}, IsS K H s v → Imm H H' → IsS K H' s v
  | .str _ _ _, _, ⟨p, e, h⟩, i => ⟨p, e, i.t h⟩
  | .prs _ _, _, ⟨p, q, e, h, k⟩, i => ⟨p, q, e, i.t h, k.imm i⟩
  | .both _ _, _, ⟨p, x, y, e, h, a, b⟩, i => ⟨p, x, y, e, i.t h, a.imm i, b.imm i⟩
theorem IsS.same {K : PySem.W.Frag} {H H' : Hp} {s : Sg} {v : V} (h : IsS K H s v) (e : Same H H') : IsS K H' s v := h.imm (Imm.same e)
/-- put in its place -/
def insK {α : Type} (k : Int) (v : α) : List (Int × α) → List (Int × α)
  | [] => [(k, v)]
  | (k', v') :: r => if k < k' then (k, v) :: (k', v') :: r else if k = k' then (k, v) :: r else (k', v') :: insK k v r
def lookK (kn : List (Int × List Int)) (k : Int) : List Int := (kn.lookup k).getD []
def knStep (many : Int) (l : Option Int) (kn : List (Int × List Int)) (p : Int) : List (Int × List Int) :=
  match l with
  | none => kn
  | some x => insK x (p :: ((lookK kn x).filter fun e => decide (e ≠ p)).take (many - 1).toNat) kn
def strStep (trust : Int) (l : Option Int) (st t p : Int) : Sg × List Int :=
  match l with
  | none => (.str (some p) 0 0, [])
  | some x => (.str (some p) (p - x) (if p - x = st then t + 1 else 1), if p - x ≠ 0 ∧ trust ≤ (if p - x = st then t + 1 else 1) then [p + (p - x)] else [])
def hd0 : List Int → Int
  | [] => 0
  | n :: _ => n
/-- what a guesser knows and guesses behind a place more -/
def stepG : G → Sg → Int → Sg × List Int
  | .both a b, .both s t, p => (.both (stepG a s p).1 (stepG b t p).1, (stepG a s p).2 ++ (stepG b t p).2.filter fun e => decide (e ∉ (stepG a s p).2))
  | .leaf w ns, s, p => if w = "none" then (s, []) else if w = "next" then (s, (List.range (hd0 ns).toNat).map fun (k : Nat) => p + (k : Int) + 1)
      else (match s with
        | .str l st t => strStep (hd0 ns) l st t p
        | .prs l kn => (.prs (some p) (knStep (hd0 ns) l kn p), lookK (knStep (hd0 ns) l kn p) p)
        | s => (s, []))
  | _, s, _ => (s, [])
/-- the state fits the guesser -/
def Fit : G → Sg → Prop
  | .both a b, .both s t => Fit a s ∧ Fit b t
  | .leaf w _, .str _ _ _ => w = "stride"
  | .leaf w _, .prs _ _ => w ≠ "stride"
  | _, _ => False
def first0 : G → Sg
  | .both a b => .both (first0 a) (first0 b)
  | .leaf w _ => if w = "stride" then .str none 0 0 else .prs none []
  | _ => .prs none []
/-- keys rise; few of them; few behind each -/
def okS (N : Nat) : Sg → Prop
  | .str _ _ _ => True
  | .prs _ kn => kn.length ≤ N ∧ (kn.map (·.1)).Pairwise (· < ·) ∧ ∀ e ∈ kn, e.2.length ≤ 3
  | .both a b => okS N a ∧ okS N b
theorem insK_len {α : Type} (k : Int) (v : α) : ∀ kn : List (Int × α), (insK k v kn).length ≤ kn.length + 1
  | [] => Nat.le_refl _
  | (k', v') :: r => by
    unfold insK
    split
    · exact Nat.le_refl _
    · split
      · exact Nat.le_succ _
      · exact Nat.succ_le_succ (insK_len k v r)
theorem insK_mem {α : Type} {k : Int} {v : α} : ∀ {kn : List (Int × α)} {e : Int × α}, e ∈ insK k v kn → e = (k, v) ∨ e ∈ kn
  | [], e, h => .inl (List.mem_singleton.mp h)
  | (k', v') :: r, e, h => by
    unfold insK at h
    split at h
    · rcases List.mem_cons.mp h with h | h
      · exact .inl h
      · exact .inr h
    · split at h
      · rcases List.mem_cons.mp h with h | h
        · exact .inl h
        · exact .inr (List.mem_cons_of_mem _ h)
      · rcases List.mem_cons.mp h with h | h
        · exact .inr (h ▸ List.mem_cons_self ..)
        · rcases insK_mem h with h | h
          · exact .inl h
          · exact .inr (List.mem_cons_of_mem _ h)
theorem insK_rise {α : Type} {k : Int} {v : α} : ∀ {kn : List (Int × α)}, (kn.map (·.1)).Pairwise (· < ·) → ((insK k v kn).map (·.1)).Pairwise (· < ·)
  | [], _ => List.pairwise_singleton _ _
  | (k', v') :: r, h => by
    rw [List.map_cons, List.pairwise_cons] at h
    unfold insK
    split
    · rename_i c
      rw [List.map_cons, List.pairwise_cons, List.map_cons, List.pairwise_cons]
      refine ⟨fun x hx => ?_, h⟩
      rcases List.mem_cons.mp hx with rfl | hx
      · exact c
      · exact Int.lt_trans c (h.1 x hx)
    · split
      · rename_i c
        subst c
        rw [List.map_cons, List.pairwise_cons]
        exact h
      · rename_i c1 c2
        rw [List.map_cons, List.pairwise_cons]
        refine ⟨fun x hx => ?_, insK_rise h.2⟩
        obtain ⟨e, he, rfl⟩ := List.mem_map.mp hx
        rcases insK_mem he with rfl | he
        · show k' < k
          omega
        · exact h.1 _ (List.mem_map.mpr ⟨e, he, rfl⟩)
theorem lookK_len {N : Nat} {kn : List (Int × List Int)} (h : ∀ e ∈ kn, e.2.length ≤ N) (k : Int) : (lookK kn k).length ≤ N := by
  unfold lookK
  cases e : kn.lookup k with
  | none => exact Nat.zero_le _
  | some v =>
    show v.length ≤ N
    have : ∀ {kn : List (Int × List Int)}, kn.lookup k = some v → (k, v) ∈ kn := by
      intro kn
      induction kn with
      | nil => intro h; cases h
      | cons a r ih =>
        intro h
        obtain ⟨x, y⟩ := a
        rw [List.lookup_cons] at h
        split at h
        · rename_i c
          have := eq_of_beq c
          subst this
          cases Option.some.inj h
          exact List.mem_cons_self ..
        · exact List.mem_cons_of_mem _ (ih h)
    exact h _ (this e)
theorem knStep_ok {N : Nat} {many : Int} (hm : many ≤ 3) {l : Option Int} {kn : List (Int × List Int)} {p : Int} (h : okS N (.prs l kn)) : okS (N + 1) (.prs (some p) (knStep many l kn p)) := by
  obtain ⟨h1, h2, h3⟩ := h
  unfold knStep
  cases l with
  | none => exact ⟨Nat.le_succ_of_le h1, h2, h3⟩
  | some x =>
    refine ⟨Nat.le_trans (insK_len _ _ _) (Nat.succ_le_succ h1), insK_rise h2, fun e he => ?_⟩
    rcases insK_mem he with rfl | he
    · show (p :: _).length ≤ 3
      rw [List.length_cons, List.length_take]
      omega
    · exact h3 e he
/-- by the keys alone -/
theorem rise_uniq {α : Type} {l m : List (Int × α)} (p : l.Perm m) (hl : (l.map (·.1)).Pairwise (· < ·)) (hm : (m.map (·.1)).Pairwise (· < ·)) : l = m := by
  rw [List.pairwise_map] at hl hm
  exact List.Perm.eq_of_pairwise (fun a b _ _ h1 h2 => absurd h1 (Int.not_lt.mpr (Int.le_of_lt h2))) hl hm p
theorem insK_perm {α : Type} {k : Int} {v : α} : ∀ {kn : List (Int × α)}, (∀ e ∈ kn, e.1 ≠ k) → (insK k v kn).Perm (kn ++ [(k, v)])
  | [], _ => List.Perm.refl _
  | (k', v') :: r, h => by
    unfold insK
    split
    · exact (List.perm_append_comm (l₁ := [(k, v)]) (l₂ := (k', v') :: r))
    · split
      · rename_i c
        exact absurd c.symm (h _ (List.mem_cons_self ..))
      · exact (insK_perm fun e he => h e (List.mem_cons_of_mem _ he)).cons _
theorem insK_old {α : Type} {k : Int} {v : α} : ∀ {kn : List (Int × α)}, (kn.map (·.1)).Pairwise (· < ·) → (∃ e ∈ kn, e.1 = k) → insK k v kn = kn.map fun e => if e.1 = k then (e.1, v) else e
  | [], _, ⟨e, h, _⟩ => nomatch h
  | (k', v') :: r, h, ⟨e, he, ek⟩ => by
    rw [List.map_cons, List.pairwise_cons] at h
    unfold insK
    by_cases c : k = k'
    · subst c
      rw [if_neg (Int.lt_irrefl _), if_pos rfl, List.map_cons, if_pos rfl]
      have : r.map (fun e => if e.1 = k then (e.1, v) else e) = r := by
        refine (List.map_congr_left fun e he => ?_).trans (List.map_id r)
        have := h.1 e.1 (List.mem_map.mpr ⟨e, he, rfl⟩)
        rw [if_neg (by show ¬ e.1 = k; omega)]
        rfl
      rw [this]
    · have he' : e ∈ r := by
        rcases List.mem_cons.mp he with rfl | he
        · exact absurd ek.symm c
        · exact he
      have lt : k' < k := by
        have := h.1 e.1 (List.mem_map.mpr ⟨e, he', rfl⟩)
        omega
      rw [if_neg (by omega), if_neg c, List.map_cons, if_neg (fun z => c z.symm), insK_old h.2 ⟨e, he', ek⟩]
/-- a dict's store, in order again -/
theorem put_ins {α : Type} {k : Int} {v : α} {kn : List (Int × α)} (h : (kn.map (·.1)).Pairwise (· < ·)) {m : List (Int × α)}
    (e : m = if (kn.any fun e => decide (e.1 = k)) = true then kn.map (fun e => if e.1 = k then (e.1, v) else e) else kn ++ [(k, v)]) {l : List (Int × α)} (p : l.Perm m) (hl : (l.map (·.1)).Pairwise (· < ·)) : l = insK k v kn := by
  subst e
  by_cases c : (kn.any fun e => decide (e.1 = k)) = true
  · rw [if_pos c] at p
    obtain ⟨x, hx, ex⟩ := List.any_eq_true.mp c
    have z := insK_old (v := v) h ⟨x, hx, of_decide_eq_true ex⟩
    rw [← z] at p
    exact rise_uniq p hl (insK_rise h)
  · rw [if_neg c] at p
    have n : ∀ e ∈ kn, e.1 ≠ k := fun e he z => c (List.any_eq_true.mpr ⟨e, he, decide_eq_true z⟩)
    exact rise_uniq (p.trans (insK_perm n).symm) hl (insK_rise h)
theorem insK_map {α β : Type} (f : α → β) (k : Int) (v : α) : ∀ kn : List (Int × α), (insK k v kn).map (fun e => (e.1, f e.2)) = insK k (f v) (kn.map fun e => (e.1, f e.2))
  | [] => rfl
  | (k', v') :: r => by
    show (insK k v ((k', v') :: r)).map _ = insK k (f v) ((k', f v') :: r.map fun e => (e.1, f e.2))
    unfold insK
    by_cases c1 : k < k'
    · rw [if_pos c1, if_pos c1]; rfl
    · rw [if_neg c1, if_neg c1]
      by_cases c2 : k = k'
      · rw [if_pos c2, if_pos c2]; rfl
      · rw [if_neg c2, if_neg c2, List.map_cons, insK_map f k v r]
theorem Ku.keys {K : PySem.W.Frag} {H : Hp} : ∀ {kn : List (Int × List Int)} {ku : List (Int × Addr)}, Ku K H kn ku → ku.map (·.1) = kn.map (·.1)
  | _, _, .nil => rfl
  | _, _, .cons h r => by rw [List.map_cons, List.map_cons, h.1, Ku.keys r]
theorem Ku.len {K : PySem.W.Frag} {H : Hp} {kn : List (Int × List Int)} {ku : List (Int × Addr)} (h : Ku K H kn ku) : kn.length = ku.length := Paired.length h
theorem Ku.look {K : PySem.W.Frag} {H : Hp} (k : Int) : ∀ {kn : List (Int × List Int)} {ku : List (Int × Addr)}, Ku K H kn ku → (kn.lookup k = none ∧ ku.lookup k = none) ∨ ∃ v u, kn.lookup k = some v ∧ ku.lookup k = some u ∧ SqT K H u (v.map V.int)
  | _, _, .nil => .inl ⟨rfl, rfl⟩
  | (k1, v) :: kn, (k2, u) :: ku, .cons ⟨h, hs⟩ r => by
    simp only at h hs
    subst h
    by_cases c : k = k1
    · subst c
      exact .inr ⟨v, u, by simp [List.lookup], by simp [List.lookup], hs⟩
    · have c1 : (k == k1) = false := beq_eq_false_iff_ne.mpr c
      rcases Ku.look k r with ⟨a, b⟩ | ⟨v', u', a, b, d⟩
      · exact .inl ⟨by simp [List.lookup, c1, a], by simp [List.lookup, c1, b]⟩
      · exact .inr ⟨v', u', by simp [List.lookup, c1, a], by simp [List.lookup, c1, b], d⟩
theorem Ku.ins {K : PySem.W.Frag} {H : Hp} {k : Int} {v : List Int} {u : Addr} (hs : SqT K H u (v.map V.int)) : ∀ {kn : List (Int × List Int)} {ku : List (Int × Addr)}, Ku K H kn ku → Ku K H (insK k v kn) (insK k u ku)
  | _, _, .nil => .cons ⟨rfl, hs⟩ .nil
  | (k1, v1) :: kn, (k2, u1) :: ku, .cons ⟨h, h1⟩ r => by
    simp only at h h1
    subst h
    unfold insK
    by_cases c1 : k < k1
    · rw [if_pos c1, if_pos c1]
      exact .cons ⟨rfl, hs⟩ (.cons ⟨rfl, h1⟩ r)
    · rw [if_neg c1, if_neg c1]
      by_cases c2 : k = k1
      · rw [if_pos c2, if_pos c2]
        exact .cons ⟨rfl, hs⟩ r
      · rw [if_neg c2, if_neg c2]
        exact .cons ⟨rfl, h1⟩ (Ku.ins hs r)
/-- as a dict's pairs -/
def dk (ku : List (Int × Addr)) : List (Key × V) := ku.map fun e => (Sum.inl e.1, V.ref e.2)
def dput (ku : List (Int × Addr)) (k : Int) (u : Addr) : List (Int × Addr) := if (ku.any fun e => decide (e.1 = k)) = true then ku.map (fun e => if e.1 = k then (e.1, u) else e) else ku ++ [(k, u)]
theorem any_dk (k : Int) : ∀ ku : List (Int × Addr), ((dk ku).any fun kv => decide (kv.1 = Sum.inl k)) = ku.any fun e => decide (e.1 = k)
  | [] => rfl
  | (a, b) :: r => by
    show (decide ((Sum.inl a : Key) = Sum.inl k) || (dk r).any _) = (decide (a = k) || r.any _)
    rw [any_dk k r, key_ll, Bool.beq_eq_decide_eq]
theorem put_dk (ku : List (Int × Addr)) (k : Int) (u : Addr) : putK (dk ku) (Sum.inl k : Key) (V.ref u) = dk (dput ku k u) := by
  unfold putK dput
  rw [any_dk]
  split
  · unfold dk
    rw [List.map_map, List.map_map]
    refine List.map_congr_left fun e _ => ?_
    show (if (Sum.inl e.1 : Key) = Sum.inl k then (Sum.inl e.1, V.ref u) else (Sum.inl e.1, V.ref e.2)) = _
    by_cases c : e.1 = k
    · rw [if_pos (congrArg Sum.inl c)]
      show _ = (fun e : Int × Addr => ((Sum.inl e.1 : Key), V.ref e.2)) (if e.1 = k then (e.1, u) else e)
      rw [if_pos c]
    · rw [if_neg (fun z => c (Sum.inl.inj z))]
      show _ = (fun e : Int × Addr => ((Sum.inl e.1 : Key), V.ref e.2)) (if e.1 = k then (e.1, u) else e)
      rw [if_neg c]
  · unfold dk
    rw [List.map_append]
    rfl
theorem val_dk (k : Int) : ∀ ku : List (Int × Addr), valV (dk ku) (Sum.inl k : Key) = (ku.lookup k).map V.ref
  | [] => rfl
  | (a, b) :: r => by
    by_cases c : a = k
    · subst c
      show valV ((Sum.inl a, V.ref b) :: dk r) _ = _
      rw [valV_pos rfl]
      simp [List.lookup]
    · show valV ((Sum.inl a, V.ref b) :: dk r) _ = _
      rw [valV_neg (fun z => c (Sum.inl.inj z)), val_dk k r]
      have : (k == a) = false := beq_eq_false_iff_ne.mpr (Ne.symm c)
      simp [List.lookup, this]
theorem merge_new : ∀ (more kvs : List (Key × V)), ((kvs ++ more).map (·.1)).Nodup → mergeK kvs more = kvs ++ more
  | [], kvs, _ => by rw [List.append_nil]; rfl
  | p :: r, kvs, h => by
    have e : putK kvs p.1 p.2 = kvs ++ [p] := by
      unfold putK
      rw [if_neg]
      intro c
      obtain ⟨x, hx, ex⟩ := List.any_eq_true.mp c
      have ex := of_decide_eq_true ex
      rw [List.map_append, List.nodup_append] at h
      exact h.2.2 x.1 (List.mem_map.mpr ⟨x, hx, rfl⟩) p.1 (by rw [List.map_cons]; exact List.mem_cons_self ..) ex
    show mergeK (putK kvs p.1 p.2) r = _
    rw [e, merge_new r (kvs ++ [p]) (by rw [List.append_assoc]; exact h), List.append_assoc]
    rfl
theorem rise_nodup {l : List Int} (h : l.Pairwise (· < ·)) : l.Nodup := List.Pairwise.imp (fun h => Int.ne_of_lt h) h
theorem merge_dk {ku : List (Int × Addr)} (h : (ku.map (·.1)).Pairwise (· < ·)) : mergeK [] (dk ku) = dk ku := by
  refine merge_new _ _ ?_
  show ((dk ku).map (·.1)).Nodup
  have e : (dk ku).map (·.1) = (ku.map (·.1)).map (Sum.inl : Int → Key) := by
    unfold dk
    rw [List.map_map, List.map_map]
    rfl
  rw [e]
  exact List.pairwise_map.mpr ((rise_nodup h).imp fun h z => h (Sum.inl.inj z))
abbrev rv (e : Int × Addr) : Int × V := (e.1, V.ref e.2)
theorem pr_zs {K : PySem.W.Frag} {H : Hp} : ∀ {zs : List (Addr × Int × V)} {m : List (Int × Addr)}, zs.map (·.2) = m.map rv → (∀ z ∈ zs, SqT K H z.1 [.int z.2.1, z.2.2]) → Paired (fun (p : Addr) (e : Int × Addr) => SqT K H p [.int e.1, .ref e.2]) (zs.map (·.1)) m
  | [], [], _, _ => .nil
  | [], _ :: _, h, _ => by simp at h
  | _ :: _, [], h, _ => by simp at h
  | z :: zs, e :: m, h, hz => by
    rw [List.map_cons, List.map_cons] at h
    injection h with h1 h2
    have a := hz z (List.mem_cons_self ..)
    rw [h1] at a
    exact .cons a (pr_zs h2 fun z hz' => hz z (List.mem_cons_of_mem _ hz'))
theorem mem_lookup {α : Type} {k : Int} {v : α} : ∀ {l : List (Int × α)}, (l.map (·.1)).Nodup → ((k, v) ∈ l ↔ l.lookup k = some v)
  | [], _ => by simp
  | (a, b) :: r, h => by
    rw [List.map_cons, List.nodup_cons] at h
    rw [List.lookup_cons, List.mem_cons]
    by_cases c : k = a
    · subst c
      rw [beq_self_eq_true]
      constructor
      · rintro (e | e)
        · injection e with _ e; rw [e]
        · exact absurd (List.mem_map.mpr ⟨(k, v), e, rfl⟩) h.1
      · intro e
        rw [Option.some.inj e]
        exact .inl rfl
    · rw [beq_eq_false_iff_ne.mpr c]
      constructor
      · rintro (e | e)
        · injection e with e _; exact absurd e c
        · exact (mem_lookup h.2).mp e
      · intro e
        exact .inr ((mem_lookup h.2).mpr e)
theorem lookup_perm {α : Type} {k : Int} {l m : List (Int × α)} (p : l.Perm m) (h : (m.map (·.1)).Nodup) : l.lookup k = m.lookup k := by
  have hl : (l.map (·.1)).Nodup := ((p.map (·.1)).nodup_iff).mpr h
  cases e : m.lookup k with
  | some v => exact (mem_lookup hl).mp (p.mem_iff.mpr ((mem_lookup h).mpr e))
  | none =>
    cases e2 : l.lookup k with
    | none => rfl
    | some v =>
      rw [(mem_lookup h).mp (p.mem_iff.mp ((mem_lookup hl).mpr e2))] at e
      cases e
theorem dput_perm {ku : List (Int × Addr)} (h : (ku.map (·.1)).Pairwise (· < ·)) (k : Int) (u : Addr) : (insK k u ku).Perm (dput ku k u) := by
  unfold dput
  by_cases c : (ku.any fun e => decide (e.1 = k)) = true
  · rw [if_pos c]
    obtain ⟨x, hx, ex⟩ := List.any_eq_true.mp c
    rw [insK_old h ⟨x, hx, of_decide_eq_true ex⟩]
  · rw [if_neg c]
    exact insK_perm fun e he z => c (List.any_eq_true.mpr ⟨e, he, decide_eq_true z⟩)
theorem dput_nodup {ku : List (Int × Addr)} (h : (ku.map (·.1)).Pairwise (· < ·)) (k : Int) (u : Addr) : ((dput ku k u).map (·.1)).Nodup :=
  (((dput_perm h k u).map (·.1)).nodup_iff).mp (rise_nodup (insK_rise h))
end St

namespace St
open PySem PySem.Spec PyProof.Rows L2
abbrev s_first_state : Stmt := topS 9
abbrev N_first_state : List Str := ["guesser"]
abbrev p_first_state : List Str := ["guesser"]
theorem sc_first_state : FnScope N_first_state p_first_state (defScope s_first_state) := ⟨rfl, rfl, rfl, by decide +kernel, rfl, by decide +kernel, by decide +kernel⟩
abbrev s_strided : Stmt := topS 10
abbrev N_strided : List Str := ["trust", "state", "place", "last", "stride", "times", "far"]
abbrev p_strided : List Str := ["trust", "state", "place"]
theorem sc_strided : FnScope N_strided p_strided (defScope s_strided) := ⟨rfl, rfl, rfl, by decide +kernel, rfl, by decide +kernel, by decide +kernel⟩
abbrev s_paired : Stmt := topS 11
abbrev N_paired : List Str := ["many", "state", "place", "last", "known", "behind", "others", "one"]
abbrev p_paired : List Str := ["many", "state", "place"]
theorem sc_paired : FnScope N_paired p_paired (defScope s_paired) := ⟨rfl, rfl, rfl, by decide +kernel, rfl, by decide +kernel, by decide +kernel⟩
abbrev s_stepped : Stmt := topS 12
abbrev N_stepped : List Str := ["guesser", "state", "place", "one", "mine", "other", "theirs", "k", "guess"]
abbrev p_stepped : List Str := ["guesser", "state", "place"]
theorem sc_stepped : FnScope N_stepped p_stepped (defScope s_stepped) := ⟨rfl, rfl, rfl, by decide +kernel, rfl, by decide +kernel, by decide +kernel⟩
section
variable {P : Program} {w : World} {K : PySem.W.Frag} {mg : Str → Option Value} {base : Heap} {f fS fP : Addr} {fd fdS fdP : FuncData}
def spFirst (K : PySem.W.Frag) (n : Nat) : Sp := fun vs H Q _ => ∃ (v : V) (g : G) (k : Nat), vs = [v] ∧ IsG K H g v ∧ good k g = true ∧ k < n ∧ k ≤ 3 ∧ ∀ v' H', Same H H' → IsS K H' (first0 g) v' → Q v' H'
theorem kn_nil {K : PySem.W.Frag} {H : Hp} {q : Addr} {o : Obj} (h : H q = some (.frz o (.tup []))) (d : o.dict = none) : IsKn K H [] q := ⟨o, [], [], h, d, .nil, .nil⟩
theorem ok_first_state (T : Nms mg) (D_first_state : Df K mg "first_state" s_first_state p_first_state f fd) : ∀ n : Nat, FnOk P w K mg base CX0 n f fd p_first_state (spFirst K n)
  | 0 => fn_zero fun vs H Q E ⟨v, g, k, _, _, _, h, _⟩ => by omega
  | n + 1 => by
    have G_first_state := ok_first_state T D_first_state n
    refine D_first_state.F.ok sc_first_state (fun vs H Q E h => ?_) (fun cdv A outer s H vs Q E hr h => ?_)
    · obtain ⟨r, m, wi, rfl, _⟩ := h
      rfl
    obtain ⟨v, g, k, rfl, hG, hg, hk, hk3, q⟩ := h
    refine ⟨_, (pss_cons (ps_if (pt_cmpR op_eq (pe_ix ix_tup (pv 0) pe_int (fun _ _ => rfl)) pe_str (nomark _))
    (pss_one (ps_ret (pe_tup (pa_cons (pe_call G_first_state (hr.mono (by first | decide | omega)) (by rfl) D_first_state.m D_first_state.F.kp D_first_state.b .nil pass0 (pa_cons (pe_ix ix_tup (pv 0) pe_int (fun _ _ => rfl)) pa_nil)) (pa_cons (pe_call G_first_state (hr.mono (by first | decide | omega)) (by rfl) D_first_state.m D_first_state.F.kp D_first_state.b .nil pass0 (pa_cons (pe_ix ix_tup (pv 0) pe_int (fun _ _ => rfl)) pa_nil)) pa_nil)))))
    (pss_nil))
  (pss_one (ps_ret (pe_ifExp (pt_cmpR op_eq (pe_ix ix_tup (pv 0) pe_int (fun _ _ => rfl)) pe_str (nomark _)) (pe_tup (pa_cons pe_non (pa_cons pe_int (pa_cons pe_int pa_nil)))) (pe_tup (pa_cons pe_non (pa_cons (pe_tupF pa_nil) pa_nil))))))), ?_⟩
    cases g with
    | leaf z ns =>
      obtain ⟨p, rfl, hp⟩ := hG
      have hz : z ≠ ("both" : Str) := (isG_good k _ hg hk3).2
      and_intros
      refine iteB0 (decide_eq_false fun x => hz (V.str.inj x)) ?_
      and_intros
      by_cases c : z = "stride"
      · refine iteB (decide_eq_true (congrArg V.str c)) ?_
        and_intros
        intro p1 n1
        exact q _ _ (same_upd n1) (by rw [show first0 (.leaf z ns) = .str none 0 0 from if_pos c]; exact ⟨p1, rfl, sqt upd_same⟩)
      · refine iteB0 (decide_eq_false fun x => c (V.str.inj x)) ?_
        and_intros
        intro p1 o1 n1 d1
        and_intros
        intro p2 n2
        refine q _ _ (by ac_rfl) ?_
        rw [show first0 (.leaf z ns) = .prs none [] from if_neg c]
        exact ⟨p2, p1, rfl, sqt upd_same, kn_nil (by infer_instance) d1⟩
    | both a b =>
      cases k with
      | zero => simp [good] at hg
      | succ k =>
      obtain ⟨p, x, y, rfl, hp, ha, hb⟩ := hG
      have h' : (good k a && good k b) = true := hg
      rw [Bool.and_eq_true] at h'
      and_intros
      refine ⟨x, a, k, rfl, ha, h'.1, by omega, by omega, fun v1 H1 s1 i1 => ?_⟩
      have hp1 := same_t s1 hp
      and_intros
      refine ⟨y, b, k, rfl, hb.same s1, h'.2, by omega, by omega, fun v2 H2 s2 i2 => ?_⟩
      and_intros
      intro p3 n3
      exact q _ _ (by ac_rfl) ⟨p3, v1, v2, rfl, sqt upd_same, (i1.same s2).same (same_upd n3), i2.same (same_upd n3)⟩
    | _ => simp [good] at hg
/-- what a step tells -/
def StepQ (K : PySem.W.Frag) (H : Hp) (Q : VK) (r : Sg × List Int) : Prop := ∀ (q l : Addr) (v : V) (H' : Hp), Same H H' → H l = none → IsS K H' r.1 v → H' l = some (.lst (r.2.map V.int)) → H' q = some (.tup [v, .ref l]) → Q (.ref q) H'
def spStrided (K : PySem.W.Frag) : Sp := fun vs H Q _ => ∃ (v : V) (l : Option Int) (tr st t p : Int), vs = [.int tr, v, .int p] ∧ IsS K H (.str l st t) v ∧ StepQ K H Q (strStep tr l st t p)
theorem ok_strided (T : Nms mg) (F : Fun K "strided" "strided" s_strided f fd) : FnOk P w K mg base CX0 1 f fd p_strided (spStrided K) := by
  refine F.ok sc_strided (fun vs H Q E h => ?_) (fun cdv A outer s H vs Q E hr h => ?_)
  · obtain ⟨v, l, tr, st, t, p, rfl, _⟩ := h
    rfl
  obtain ⟨v, l, tr, st, t, p, rfl, ⟨a, rfl, ha⟩, q⟩ := h
  refine ⟨_, (pss_cons (ps_asg (pv 1) (pg_tup rfl (pgs_cons (pg_name (i := 3) sc_strided.nd rfl (Or.inl rfl)) (pgs_cons (pg_name (i := 4) sc_strided.nd rfl (Or.inl rfl)) (pgs_cons (pg_name (i := 5) sc_strided.nd rfl (Or.inl rfl)) pgs_nil)))))
  (pss_cons (ps_if (pt_cmpR op_isN (pv 3) pe_non (nomark _))
    (pss_one (ps_ret (pe_tup (pa_cons (pe_tup (pa_cons (pv 2) (pa_cons pe_int (pa_cons pe_int pa_nil)))) (pa_cons (pe_lst pa_nil) pa_nil)))))
    (pss_nil))
  (pss_cons (ps_set (i := 6) sc_strided.nd rfl (Or.inl rfl) (pe_op op_sub (pv 2) (pv 3)))
  (pss_cons (ps_set (i := 5) sc_strided.nd rfl (Or.inl rfl) (pe_ifExp (pt_cmpR op_eq (pv 6) (pv 4) (nomark _)) (pe_op op_add (pv 5) pe_int) pe_int))
  (pss_one (ps_ret (pe_tup (pa_cons (pe_tup (pa_cons (pv 2) (pa_cons (pv 6) (pa_cons (pv 5) pa_nil)))) (pa_cons (pe_ifExp (PW.pt (pw_and (pt_cmpR op_ne (pv 6) pe_int (nomark _)) (pw_and1 (pt_cmpR op_ge (pv 5) (pv 0) (nomark _))))) (pe_lst (pa_cons (pe_op op_add (pv 2) (pv 6)) pa_nil)) (pe_lst pa_nil)) pa_nil))))))))), ?_⟩
  cases l with
  | none =>
    refine ⟨_, rfl, a, _, rfl, ha, rfl, _, _, rfl, _, _, rfl, _, _, rfl, rfl, ?_⟩
    and_intros
    intro p1 n1
    and_intros
    intro l1 nl1
    and_intros
    intro p2 n2
    have z : H l1 = none := (same_upd n1).free nl1
    exact q p2 l1 (.ref p1) _ (by ac_rfl) z ⟨p1, rfl, (by infer_instance)⟩ (by infer_instance) upd_same
  | some x =>
    refine ⟨_, rfl, a, _, rfl, ha, rfl, _, _, rfl, _, _, rfl, _, _, rfl, rfl, ?_⟩
    and_intros
    have q0 : StepQ K H Q (.str (some p) (p - x) (if p - x = st then t + 1 else 1), if p - x ≠ 0 ∧ tr ≤ (if p - x = st then t + 1 else 1) then [p + (p - x)] else []) := q
    have fin : ∀ t' : Int, StepQ K H Q (.str (some p) (p - x) t', if p - x ≠ 0 ∧ tr ≤ t' then [p + (p - x)] else []) →
        tRet (tTup (tCons (tTup (tCons (tVar 2) (tCons (tVar 6) (tCons (tVar 5) tNil)))) (tCons (tIf (tAnd (tTest (tOp rNe (tVar 6) (tC (.int 0)))) (tTest (tOp (rI0 fun i j => .bl (decide (j ≤ i))) (tVar 5) (tVar 0)))) (tLst (tCons (tOp (rI0 fun i j => .int (i + j)) (tVar 2) (tVar 6)) tNil)) (tLst tNil)) tNil)))
          { nx := fun _ H' => Q .non H', rt := Q } [some (.int tr), some (.ref a), some (.int p), some (.int x), some (.int st), some (.int t'), some (.int (p - x))] H := fun t' q1 => by
      and_intros
      intro p1 n1
      and_intros
      by_cases c1 : p - x = 0
      · refine iteB0 (by rw [decide_eq_true (congrArg V.int c1)]; rfl) ?_
        refine iteB0 rfl ?_
        rw [if_neg (fun z => z.1 c1)] at q1
        and_intros
        intro l1 nl1
        and_intros
        intro p2 n2
        exact q1 p2 l1 (.ref p1) _ (by ac_rfl) ((same_upd n1).free nl1) ⟨p1, rfl, (by infer_instance)⟩ (by infer_instance) upd_same
      · refine iteB (by rw [decide_eq_false fun z => c1 (V.int.inj z)]; rfl) ?_
        and_intros
        by_cases c2 : tr ≤ t'
        · refine iteB (decide_eq_true c2) ?_
          rw [if_pos ⟨c1, c2⟩] at q1
          and_intros
          intro l1 nl1
          and_intros
          intro p2 n2
          exact q1 p2 l1 (.ref p1) _ (by ac_rfl) ((same_upd n1).free nl1) ⟨p1, rfl, (by infer_instance)⟩ (by infer_instance) upd_same
        · refine iteB0 (decide_eq_false c2) ?_
          rw [if_neg (fun z => c2 z.2)] at q1
          and_intros
          intro l1 nl1
          and_intros
          intro p2 n2
          exact q1 p2 l1 (.ref p1) _ (by ac_rfl) ((same_upd n1).free nl1) ⟨p1, rfl, (by infer_instance)⟩ (by infer_instance) upd_same
    by_cases c : p - x = st
    · rw [if_pos c] at q0
      refine iteB (decide_eq_true (congrArg V.int c)) ?_
      refine ⟨_, rfl, _, _, rfl, rfl, ?_⟩
      exact fin _ q0
    · rw [if_neg c] at q0
      refine iteB0 (decide_eq_false fun e => c (V.int.inj e)) ?_
      exact fin _ q0
/-! ### pairs -/
theorem pr_dk {K : PySem.W.Frag} {H : Hp} : ∀ {ps : List Addr} {ku : List (Int × Addr)}, Paired (fun (p : Addr) (e : Int × Addr) => SqT K H p [.int e.1, .ref e.2]) ps ku → Paired (fun (p : Addr) (kv : Key × V) => SqT K H p [kV kv.1, kv.2]) ps (dk ku)
  | _, _, .nil => .nil
  | _, _, .cons h r => .cons h (pr_dk r)
def spPaired (K : PySem.W.Frag) : Sp := fun vs H Q _ => ∃ (v : V) (l : Option Int) (many : Int) (kn : List (Int × List Int)) (p : Int) (N : Nat), vs = [.int many, v, .int p] ∧ IsS K H (.prs l kn) v ∧ 1 ≤ many ∧ many ≤ 3 ∧ okS N (.prs l kn) ∧ N ≤ 10000 ∧
  StepQ K H Q (.prs (some p) (knStep many l kn p), lookK (knStep many l kn p) p)
theorem ok_paired (T : Nms mg) (F : Fun K "paired" "paired" s_paired f fd) : FnOk P w K mg base CX0 1 f fd p_paired (spPaired K) := by
  refine F.ok sc_paired (fun vs H Q E h => ?_) (fun cdv A outer s H vs Q E hr h => ?_)
  · obtain ⟨v, l, many, kn, p, N, rfl, _⟩ := h
    rfl
  obtain ⟨v, l, many, kn, p, N, rfl, ⟨a, b, rfl, ha, hk⟩, hm, hm3, hok, hN, q⟩ := h
  refine ⟨_, (pss_cons (ps_asg (pv 1) (pg_tup rfl (pgs_cons (pg_name (i := 3) sc_paired.nd rfl (Or.inl rfl)) (pgs_cons (pg_name (i := 4) sc_paired.nd rfl (Or.inl rfl)) pgs_nil))))
  (pss_cons (ps_set (i := 5) sc_paired.nd rfl (Or.inl rfl) (pe_callTy (call_dictT rfl) (by rfl) T.n_dict (by decide +kernel) (pa_cons (pv 4) pa_nil)))
  (Evl.pss_cut (ps_if (pt_cmpR op_notN (pv 3) pe_non (nomark _))
    (pss_cons (ps_setLc (i := 6) (own := [("one", 7)]) (g := gName 7) rfl sc_paired.nd rfl rfl (sw_true rfl rfl rfl (by decide +kernel)) (pi_tup (pe_dget2 (hu_of hr) (pv 5) (pv 3) (pe_tup pa_nil) ⟨rfl, rfl, rfl, rfl⟩)) (blkOk_by (own := [("one", 7)]) (N := N_paired) (sc := defScope s_paired) (by decide +kernel)) (fun _ _ _ _ _ => pg_name (i := 7) sc_paired.nd rfl (Or.inl rfl)) (fun _ _ _ _ _ => pts_one (pt_cmpR op_ne (pv 7) (pv 2) (nomark _))) (fun _ _ _ _ _ => (pv 7)))
    (pss_one (ps_dput (hu_of hr) (pv 5) (pv 3) (pe_callTy call_tuple_of (by rfl) T.n_tuple (by decide +kernel) (pa_cons (pe_op op_cat (pe_lst (pa_cons (pv 2) pa_nil)) (pe_slice sl_list (pv 6) po_none (po_some (pe_op op_sub (pv 0) pe_int)))) pa_nil)) rfl)))
    (pss_nil))
  (pss_one (ps_ret (pe_tup (pa_cons (pe_tup (pa_cons (pv 2) (pa_cons (pe_callTy call_tupF (by rfl) T.n_tuple (by decide +kernel) (pa_cons (pe_callB (cr_sortedItemsK rfl) (by rfl) T.n_sorted (by decide +kernel) (pa_cons (pe_bm0 PySem.F.plainAttrs_dict PySem.F.slot_dict_items PySem.F.type_dict_items mt_itemsK (pv 5)) pa_nil)) pa_nil)) pa_nil))) (pa_cons (pe_callTy call_list_of (by rfl) T.n_list (by decide +kernel) (pa_cons (pe_dget2 (hu_of hr) (pv 5) (pv 2) (pe_tup pa_nil) ⟨rfl, rfl, rfl, rfl⟩) pa_nil)) pa_nil)))))))), ?_⟩
  refine ⟨_, rfl, a, _, rfl, ha, rfl, _, _, rfl, _, _, rfl, rfl, ?_⟩
  and_intros
  obtain ⟨ob, ps, ku, e1, e2, e3, e4⟩ := hk
  obtain ⟨o1, o2, o3⟩ := hok
  have hrise : (ku.map (·.1)).Pairwise (· < ·) := by rw [e4.keys]; exact o2
  have hlen : ku.length ≤ N := by rw [← e4.len]; exact o1
  refine ⟨b, ob, ps, dk ku, rfl, e1, e2, ?_, fun D nD => ?_⟩
  · exact pr_dk e3
  rw [merge_dk hrise]
  have sD : Same H (upd H D (.dK (dk ku))) := same_upd nD
  have hD : (upd H D (.dK (dk ku))) D = some (.dK (dk ku)) := upd_same
  generalize upd H D (.dK (dk ku)) = H1 at sD hD ⊢
  refine ⟨fun σ' H' => ∃ y6 y7 mu, σ' = [some (.int many), some (.ref a), some (.int p), some (optV l), some (.ref b), some (.ref D), y6, y7] ∧ Same H H' ∧ H' D = some (.dK (dk mu)) ∧ (mu.map (·.1)).Nodup ∧
    ∀ m' : List (Int × Addr), m'.Perm mu → (m'.map (·.1)).Pairwise (· < ·) → Ku K H' (knStep many l kn p) m', ?_, fun σ' H' h => ?_⟩
  · cases l with
    | none =>
      and_intros
      refine ⟨none, none, ku, rfl, sD, hD, rise_nodup hrise, fun m' pm hm => ?_⟩
      rw [rise_uniq pm hm hrise]
      exact e4.imm (Imm.same sD)
    | some x =>
      and_intros
      refine ⟨.inl ⟨_, .inl hD⟩, _, rfl, ?_⟩
      and_intros
      intro p4 n4
      have hD4 : (upd H1 p4 (.tup [])) D = some (.dK (dk ku)) := same_upd n4 _ _ hD
      refine ⟨_, DGet.k (k := Sum.inl x) hD4, ?_⟩
      rw [val_dk]
      have e4' : Ku K (upd H1 p4 (.tup [])) kn ku := e4.imm (Imm.same (sD.trans (same_upd n4)))
      have sD4 : Same H (upd H1 p4 (.tup [])) := sD.trans (same_upd n4)
      have hemp : SqT K (upd H1 p4 (.tup [])) p4 [] := sqt upd_same
      generalize upd H1 p4 (.tup []) = H2 at hD4 e4' sD4 hemp ⊢
      obtain ⟨t, ht, hv⟩ : ∃ t, (((ku.lookup x).map V.ref).getD (.ref p4)) = .ref t ∧ SqT K H2 t ((lookK kn x).map V.int) := by
        rcases Ku.look x e4' with ⟨b1, b2⟩ | ⟨v, u, b1, b2, b3⟩
        · refine ⟨p4, by rw [b2]; rfl, ?_⟩
          unfold lookK
          rw [b1]
          exact hemp
        · refine ⟨u, by rw [b2]; rfl, ?_⟩
          unfold lookK
          rw [b1]
          exact b3
      rw [ht]
      have lk3 : (lookK kn x).length ≤ 3 := lookK_len o3 x
      refine ⟨t, rfl, ⟨_, hv⟩, fun L nL => ?_⟩
      refine lc_tup (xs := (lookK kn x).map V.int) (fun i H' => Same H2 H' ∧ H' L = some (.lst ((((lookK kn x).take i).filter fun e => decide (e ≠ p)).map V.int))) ⟨same_upd nL, upd_same⟩ (fun i H' _ h => same_t h.1 hv) (fun i y H' hi h => ?_) (fun H' h => ?_)
      · refine ⟨rfl, ?_⟩
        rw [List.getElem?_map] at hi
        cases e : (lookK kn x)[i]? with
        | none => rw [e] at hi; cases hi
        | some m =>
          rw [e] at hi
          cases Option.some.inj hi
          and_intros
          have tk : (lookK kn x).take (i + 1) = (lookK kn x).take i ++ [m] := by rw [List.take_add_one, e]; rfl
          have sz1 : (((lookK kn x).take i).filter fun e => decide (e ≠ p)).length ≤ 3 := Nat.le_trans (List.length_filter_le _ _) (by rw [List.length_take]; omega)
          by_cases c : m = p
          · refine iteB0 (by rw [decide_eq_true (congrArg V.int c)]; rfl) ?_
            refine ⟨h.1, ?_⟩
            rw [h.2, tk, List.filter_append, List.filter_cons, if_neg (by rw [decide_eq_false (fun z => z c)]; exact Bool.false_ne_true)]
            rw [List.filter_nil, List.append_nil]
          · refine iteB (by rw [decide_eq_false fun z => c (V.int.inj z)]; rfl) ?_
            refine ⟨_, rfl, _, h.2, by rw [List.length_map]; exact szl (by omega), same_mut h.1 nL, ?_⟩
            rw [upd_same, tk, List.filter_append, List.filter_cons, if_pos (decide_eq_true c), List.filter_nil, List.map_append]
            rfl
      · have tk : (lookK kn x).take (List.map V.int (lookK kn x)).length = lookK kn x := by rw [List.length_map]; exact List.take_length
        rw [tk] at h
        generalize hoth : ((lookK kn x).filter fun e => decide (e ≠ p)) = oth at h
        have lo : oth.length ≤ 3 := by rw [← hoth]; exact Nat.le_trans (List.length_filter_le _ _) lk3
        have hL : SqL K H' L (oth.map V.int) := sql h.2
        have dD : H' D = some (.dK (dk ku)) := h.1 _ _ hD4
        and_intros
        intro l1 n1
        have hL1 := same_l (same_upd (o := .lst [.int p]) n1) hL
        and_intros
        intro l2 n2
        have cutE : cutV (oth.map V.int) none (some (many - 1)) = (oth.take (many - 1).toNat).map V.int := by
          unfold cutV
          rw [HT.sIx_none]
          obtain ⟨mn, rfl⟩ : ∃ mn : Nat, many = (mn : Int) + 1 := ⟨(many - 1).toNat, by omega⟩
          have e : ((mn : Int) + 1 - 1) = ((mn : Nat) : Int) := by omega
          rw [e, HT.sIx_nat]
          rw [List.drop_zero, Int.toNat_natCast, ← List.map_take]
          congr 1
          rw [List.length_map]
          by_cases c : mn ≤ oth.length
          · rw [Nat.min_eq_left c]; rfl
          · rw [Nat.min_eq_right (by omega), List.take_of_length_le (by omega), List.take_of_length_le (by omega)]
        rw [cutE]
        have lt : (oth.take (many - 1).toNat).length ≤ 3 := by rw [List.length_take]; omega
        refine ⟨_, _, _, _, rfl, rfl, (by infer_instance), upd_same, by rw [List.length_map]; exact sz (by show 1 + _ ≤ _; omega), fun l3 n3 => ?_⟩
        refine ⟨l3, _, rfl, .inl ⟨sql upd_same, fun u nu => ?_⟩⟩
        have sF : Same H (upd (upd (upd (upd H' l1 (.lst [.int p])) l2 (.lst ((oth.take (many - 1).toNat).map V.int))) l3 (.lst ([.int p] ++ (oth.take (many - 1).toNat).map V.int))) u (.tup ([.int p] ++ (oth.take (many - 1).toNat).map V.int))) := by
          have z : Same H H' := sD4.trans h.1
          ac_rfl
        have dF : (upd (upd (upd (upd H' l1 (.lst [.int p])) l2 (.lst ((oth.take (many - 1).toNat).map V.int))) l3 (.lst ([.int p] ++ (oth.take (many - 1).toNat).map V.int))) u (.tup ([.int p] ++ (oth.take (many - 1).toNat).map V.int))) D = some (.dK (dk ku)) := by infer_instance
        have uF : (upd (upd (upd (upd H' l1 (.lst [.int p])) l2 (.lst ((oth.take (many - 1).toNat).map V.int))) l3 (.lst ([.int p] ++ (oth.take (many - 1).toNat).map V.int))) u (.tup ([.int p] ++ (oth.take (many - 1).toNat).map V.int))) u = some (.tup ((p :: oth.take (many - 1).toNat).map V.int)) := upd_same
        generalize (upd (upd (upd (upd H' l1 (.lst [.int p])) l2 (.lst ((oth.take (many - 1).toNat).map V.int))) l3 (.lst ([.int p] ++ (oth.take (many - 1).toNat).map V.int))) u (.tup ([.int p] ++ (oth.take (many - 1).toNat).map V.int))) = H7 at sF dF uF ⊢
        and_intros
        refine ⟨D, _, rfl, DPut.k (k := Sum.inl x) dF (by unfold dk; rw [List.length_map]; exact szl (by omega)), ?_⟩
        rw [put_dk]
        refine ⟨_, _, dput ku x u, rfl, same_mut sF nD, upd_same, dput_nodup hrise x u, fun m' pm hm => ?_⟩
        have em : m' = insK x u ku := rise_uniq (pm.trans (dput_perm hrise x u).symm) hm (insK_rise hrise)
        rw [em]
        have nuD : u ≠ D := ne_of uF dF (by intro z; cases z)
        have hu : SqT K (upd H7 D (.dK (dk (dput ku x u)))) u ((p :: oth.take (many - 1).toNat).map V.int) := sqt (by rw [upd_ne nuD]; exact uF)
        have hk7 : Ku K (upd H7 D (.dK (dk (dput ku x u)))) kn ku := e4.imm (Imm.same (same_mut sF nD))
        rw [← hoth] at hu
        exact Ku.ins hu hk7
  · obtain ⟨y6, y7, mu, rfl, s1, d1, nd, hmu⟩ := h
    and_intros
    refine ⟨.inr (.inr (.inl ⟨rfl, .inl ⟨_, d1⟩⟩)), D, _, rfl, rfl, d1, fun it nit => ?_⟩
    have nd' : ((mu.map rv).map (·.1)).Nodup := by
      rw [List.map_map]
      exact nd
    have d2 : (upd H' it (DX.itemsO it D)) D = some (.dK ((mu.map rv).map fun e => (Sum.inl e.1, e.2))) := by
      rw [List.map_map]
      exact same_upd nit _ _ d1
    refine ⟨it, D, mu.map rv, rfl, upd_same, d2, nd', fun H2 l2 zs s2 n2 pm hr e2 ez => ?_⟩
    obtain ⟨m', pm', em'⟩ := perm_lift rv pm mu rfl
    have hr' : (m'.map (·.1)).Pairwise (· < ·) := by
      have z : m'.map (·.1) = zs.map (·.2.1) := by
        have z := congrArg (List.map (·.1)) em'
        rw [List.map_map, List.map_map] at z
        exact z
      rw [z]
      exact hr
    have kk := hmu m' pm' hr'
    have i2 : Imm H' H2 := Imm.same ((same_upd nit).trans s2)
    have pr := pr_zs (K := K) (H := H2) em'.symm fun z hz => sqt (ez z hz)
    refine ⟨l2, _, rfl, sql e2, fun t o nt dt => ?_⟩
    have d3 : H2 D = some (.dK (dk mu)) := ((same_upd nit).trans s2) _ _ d1
    have ezs : zs.map (fun z => V.ref z.1) = (zs.map (·.1)).map V.ref := by rw [List.map_map]; rfl
    rw [ezs]
    and_intros
    intro p3 n3
    and_intros
    have d4 : (upd (upd H2 t (.frz o (.tup ((zs.map (·.1)).map V.ref)))) p3 (.tup [.int p, .ref t])) D = some (.dK (dk mu)) := by infer_instance
    refine ⟨.inl ⟨_, .inl d4⟩, _, rfl, ?_⟩
    and_intros
    intro p4 n4
    have d5 : (upd (upd (upd H2 t (.frz o (.tup ((zs.map (·.1)).map V.ref)))) p3 (.tup [.int p, .ref t])) p4 (.tup [])) D = some (.dK (dk mu)) := by infer_instance
    refine ⟨_, DGet.k (k := Sum.inl p) d5, ?_⟩
    rw [val_dk]
    have hK : IsKn K (upd H2 t (.frz o (.tup ((zs.map (·.1)).map V.ref)))) (knStep many l kn p) t := ⟨o, _, m', upd_same, dt, Paired.mapP pr fun _ _ z => same_t (same_upd nt) z, (kk.imm i2).imm (Imm.same (same_upd nt))⟩
    have sA : Same H (upd (upd H2 t (.frz o (.tup ((zs.map (·.1)).map V.ref)))) p3 (.tup [.int p, .ref t])) := by
      have z1 : Same H (upd H' it (DX.itemsO it D)) := s1.trans (same_upd nit)
      ac_rfl
    have hS : IsS K (upd (upd H2 t (.frz o (.tup ((zs.map (·.1)).map V.ref)))) p3 (.tup [.int p, .ref t])) (.prs (some p) (knStep many l kn p)) (.ref p3) := ⟨p3, t, rfl, sqt upd_same, hK.imm (Imm.same (same_upd n3))⟩
    have hlk : mu.lookup p = m'.lookup p := (lookup_perm pm' nd).symm
    have kk2 := ((kk.imm i2).imm (Imm.same (same_upd (o := .frz o (.tup ((zs.map (·.1)).map V.ref))) nt))).imm (Imm.same (same_upd (o := .tup [.int p, .ref t]) n3))
    rw [hlk]
    have done : ∀ (H5 : Hp) (l5 : Addr), Same (upd (upd H2 t (.frz o (.tup ((zs.map (·.1)).map V.ref)))) p3 (.tup [.int p, .ref t])) H5 → (upd (upd H2 t (.frz o (.tup ((zs.map (·.1)).map V.ref)))) p3 (.tup [.int p, .ref t])) l5 = none → H5 l5 = some (.lst ((lookK (knStep many l kn p) p).map V.int)) →
        [V.ref p3, V.ref l5].length ≤ sizeLine ∧ ∀ q5, H5 q5 = none → Q (.ref q5) (upd H5 q5 (.tup [.ref p3, .ref l5])) := fun H5 l5 s5 n5 e5 => by
      refine ⟨sz_2, fun q5 nq5 => ?_⟩
      exact q q5 l5 (.ref p3) _ ((sA.trans s5).trans (same_upd nq5)) (sA.free n5) ((hS.same s5).same (same_upd nq5)) (same_upd nq5 _ _ e5) upd_same
    rcases Ku.look p kk2 with ⟨b1, b2⟩ | ⟨v, u, b1, b2, b3⟩
    · rw [b2]
      refine ⟨p4, [], rfl, .inr (sqt upd_same), fun l5 nl5 => ?_⟩
      have z : Same (upd (upd H2 t (.frz o (.tup ((zs.map (·.1)).map V.ref)))) p3 (.tup [.int p, .ref t])) (upd (upd (upd (upd H2 t (.frz o (.tup ((zs.map (·.1)).map V.ref)))) p3 (.tup [.int p, .ref t])) p4 (.tup [])) l5 (.lst [])) := by ac_rfl
      refine done _ l5 z ((same_upd n4).free nl5) ?_
      rw [upd_same]
      unfold lookK
      rw [b1]
      rfl
    · rw [b2]
      refine ⟨u, _, rfl, .inr (same_t (same_upd n4) b3), fun l5 nl5 => ?_⟩
      have z : Same (upd (upd H2 t (.frz o (.tup ((zs.map (·.1)).map V.ref)))) p3 (.tup [.int p, .ref t])) (upd (upd (upd (upd H2 t (.frz o (.tup ((zs.map (·.1)).map V.ref)))) p3 (.tup [.int p, .ref t])) p4 (.tup [])) l5 (.lst (v.map V.int))) := by ac_rfl
      refine done _ l5 z ((same_upd n4).free nl5) ?_
      rw [upd_same]
      unfold lookK
      rw [b1]
      rfl
/-! ### a step of any guesser -/
theorem hd_good {k : Nat} {z : Str} {ns : List Int} (h : good k (.leaf z ns) = true) (hz : z ≠ ("none" : Str)) : ∃ n, ns = [n] ∧ 1 ≤ n ∧ n ≤ 3 := by
  rcases good_leaf h with ⟨e, _⟩ | ⟨n, e, hn, _⟩
  · exact absurd e hz
  · exact ⟨n, e, by omega, by omega⟩
theorem stepG_len : ∀ {k : Nat} {g : G} {s : Sg} {p : Int} {N : Nat}, good k g = true → Fit g s → okS N s → (stepG g s p).2.length ≤ 3 * 2 ^ k
  | _, .nil, _, _, _, h, _, _ => by simp [good] at h
  | _, .b1 _, _, _, _, h, _, _ => by simp [good] at h
  | _, .b3 _ _ _, _, _, _, h, _, _ => by simp [good] at h
  | 0, .both _ _, _, _, _, h, _, _ => by simp [good] at h
  | k + 1, .both a b, .both s t, p, N, h, f, o => by
    have h' : (good k a && good k b) = true := h
    rw [Bool.and_eq_true] at h'
    have ha := stepG_len (p := p) h'.1 f.1 o.1
    have hb := stepG_len (p := p) h'.2 f.2 o.2
    show ((stepG a s p).2 ++ (stepG b t p).2.filter _).length ≤ _
    have z := List.length_filter_le (fun e => decide (e ∉ (stepG a s p).2)) (stepG b t p).2
    rw [List.length_append, Nat.pow_succ]
    omega
  | _, .both _ _, .str _ _ _, _, _, _, f, _ => f.elim
  | _, .both _ _, .prs _ _, _, _, _, f, _ => f.elim
  | k, .leaf z ns, s, p, N, h, f, o => by
    have pw := pow_ge k
    by_cases c1 : z = "none"
    · have e : stepG (.leaf z ns) s p = (s, []) := if_pos c1
      rw [e]
      exact Nat.zero_le _
    · obtain ⟨n, rfl, h1, h3⟩ := hd_good h c1
      by_cases c2 : z = "next"
      · have e : stepG (.leaf z [n]) s p = (s, (List.range n.toNat).map fun (k : Nat) => p + (k : Int) + 1) := (if_neg c1).trans (if_pos c2)
        rw [e, List.length_map, List.length_range]
        omega
      · cases s with
        | both _ _ => exact f.elim
        | str l st t =>
          have e : stepG (.leaf z [n]) (.str l st t) p = strStep n l st t p := (if_neg c1).trans (if_neg c2)
          rw [e]
          have : (strStep n l st t p).2.length ≤ 1 := by
            unfold strStep
            cases l with
            | none => exact Nat.zero_le _
            | some x =>
              dsimp only
              split <;> (split <;> first | exact Nat.le_refl _ | exact Nat.zero_le _)
          omega
        | prs l kn =>
          have e : stepG (.leaf z [n]) (.prs l kn) p = (.prs (some p) (knStep n l kn p), lookK (knStep n l kn p) p) := (if_neg c1).trans (if_neg c2)
          rw [e]
          have := lookK_len (knStep_ok (many := n) h3 (p := p) o).2.2 p
          show (lookK _ _).length ≤ _
          omega
def spStepped (K : PySem.W.Frag) (n : Nat) : Sp := fun vs H Q _ => ∃ (v u : V) (g : G) (s : Sg) (p : Int) (k N : Nat), vs = [v, u, .int p] ∧ IsG K H g v ∧ IsS K H s u ∧ good k g = true ∧ k < n ∧ k ≤ 3 ∧ Fit g s ∧ okS N s ∧ N ≤ 10000 ∧ StepQ K H Q (stepG g s p)
theorem ok_stepped (T : Nms mg) (D_strided : Df K mg "strided" s_strided p_strided fS fdS) (D_paired : Df K mg "paired" s_paired p_paired fP fdP) (D_stepped : Df K mg "stepped" s_stepped p_stepped f fd) : ∀ n : Nat, FnOk P w K mg base CX0 (n + 1) f fd p_stepped (spStepped K n)
  | 0 => fn_zero fun vs H Q E ⟨v, u, g, s, p, k, N, _, _, _, _, h, _⟩ => by omega
  | n + 1 => by
    have G_stepped := ok_stepped T D_strided D_paired D_stepped n
    have G_strided : FnOk P w K mg base CX0 1 fS fdS p_strided (spStrided K) := ok_strided T D_strided.F
    have G_paired : FnOk P w K mg base CX0 1 fP fdP p_paired (spPaired K) := ok_paired T D_paired.F
    refine D_stepped.F.ok sc_stepped (fun vs H Q E h => ?_) (fun cdv A outer s H vs Q E hr h => ?_)
    · obtain ⟨v, u, g, s, p, k, N, rfl, _⟩ := h
      rfl
    obtain ⟨v, u, g, s, p, k, N, rfl, hG, hS, hg, hk, hk3, hf, ho, hN, q⟩ := h
    refine ⟨_, (pss_cons (ps_if (pt_cmpR op_eq (pe_ix ix_tup (pv 0) pe_int (fun _ _ => rfl)) pe_str (nomark _))
    (pss_one (ps_ret (pe_tup (pa_cons (pv 1) (pa_cons (pe_lst pa_nil) pa_nil)))))
    (pss_nil))
  (pss_cons (ps_if (pt_cmpR op_eq (pe_ix ix_tup (pv 0) pe_int (fun _ _ => rfl)) pe_str (nomark _))
    (pss_one (ps_ret (pe_tup (pa_cons (pv 1) (pa_cons (pe_lc (own := [("k", 7)]) (g := gName 7) rfl sc_stepped.nd (pi_range1 rfl T.n_range (pa_cons (pe_ix ix_tup (pv 0) pe_int (fun _ _ => rfl)) pa_nil)) (blkOk_by (own := [("k", 7)]) (N := N_stepped) (sc := defScope s_stepped) (by decide +kernel)) (fun _ _ _ _ _ => pg_name (i := 7) sc_stepped.nd rfl (Or.inl rfl)) (fun _ _ _ _ _ => pts_nil) (fun _ _ _ _ _ => (pe_op op_add (pe_op op_add (pv 2) (pv 7)) pe_int))) pa_nil)))))
    (pss_nil))
  (pss_cons (ps_if (pt_cmpR op_eq (pe_ix ix_tup (pv 0) pe_int (fun _ _ => rfl)) pe_str (nomark _))
    (pss_one (ps_ret (pe_call G_strided (hr.mono (by first | decide | omega)) (by rfl) D_strided.m D_strided.F.kp D_strided.b .nil pass0 (pa_cons (pe_ix ix_tup (pv 0) pe_int (fun _ _ => rfl)) (pa_cons (pv 1) (pa_cons (pv 2) pa_nil))))))
    (pss_nil))
  (pss_cons (ps_if (pt_cmpR op_eq (pe_ix ix_tup (pv 0) pe_int (fun _ _ => rfl)) pe_str (nomark _))
    (pss_one (ps_ret (pe_call G_paired (hr.mono (by first | decide | omega)) (by rfl) D_paired.m D_paired.F.kp D_paired.b .nil pass0 (pa_cons (pe_ix ix_tup (pv 0) pe_int (fun _ _ => rfl)) (pa_cons (pv 1) (pa_cons (pv 2) pa_nil))))))
    (pss_nil))
  (pss_cons (ps_asg (pe_call G_stepped (hr.mono (by first | decide | omega)) (by rfl) D_stepped.m D_stepped.F.kp D_stepped.b .nil pass0 (pa_cons (pe_ix ix_tup (pv 0) pe_int (fun _ _ => rfl)) (pa_cons (pe_ix ix_tup (pv 1) pe_int (fun _ _ => rfl)) (pa_cons (pv 2) pa_nil)))) (pg_tup rfl (pgs_cons (pg_name (i := 3) sc_stepped.nd rfl (Or.inl rfl)) (pgs_cons (pg_name (i := 4) sc_stepped.nd rfl (Or.inr rfl)) pgs_nil))))
  (pss_cons (ps_asg (pe_call G_stepped (hr.mono (by first | decide | omega)) (by rfl) D_stepped.m D_stepped.F.kp D_stepped.b .nil pass0 (pa_cons (pe_ix ix_tup (pv 0) pe_int (fun _ _ => rfl)) (pa_cons (pe_ix ix_tup (pv 1) pe_int (fun _ _ => rfl)) (pa_cons (pv 2) pa_nil)))) (pg_tup rfl (pgs_cons (pg_name (i := 5) sc_stepped.nd rfl (Or.inl rfl)) (pgs_cons (pg_name (i := 6) sc_stepped.nd rfl (Or.inl rfl)) pgs_nil))))
  (pss_one (ps_ret (pe_tup (pa_cons (pe_tup (pa_cons (pv 3) (pa_cons (pv 5) pa_nil))) (pa_cons (pe_op op_cat (pv 4) (pe_lc (own := [("guess", 8)]) (g := gName 8) rfl sc_stepped.nd (pi_list (pv 6)) (blkOk_by (own := [("guess", 8)]) (N := N_stepped) (sc := defScope s_stepped) (by decide +kernel)) (fun _ _ _ _ _ => pg_name (i := 8) sc_stepped.nd rfl (Or.inl rfl)) (fun _ _ _ _ _ => pts_one (pt_cmpR (notIn_seqK (K := K)) (pv 8) (pv 4) (by with_unfolding_all rfl))) (fun _ _ _ _ _ => (pv 8)))) pa_nil))))))))))), ?_⟩
    cases g with
    | leaf z ns =>
      obtain ⟨a, rfl, ha⟩ := hG
      have hz : z ≠ ("both" : Str) := (isG_good k _ hg hk3).2
      and_intros
      by_cases c1 : z = "none"
      · refine iteB (decide_eq_true (congrArg V.str c1)) ?_
        and_intros
        intro l1 n1
        and_intros
        intro p2 n2
        have q' : StepQ K H Q (s, []) := by rw [← show stepG (.leaf z ns) s p = (s, []) from if_pos c1]; exact q
        exact q' p2 l1 u _ (by ac_rfl) n1 (hS.same (by ac_rfl)) (by infer_instance) upd_same
      · refine iteB0 (decide_eq_false fun x => c1 (V.str.inj x)) ?_
        obtain ⟨m, rfl, m1, m3⟩ := hd_good hg c1
        and_intros
        by_cases c2 : z = "next"
        · refine iteB (decide_eq_true (congrArg V.str c2)) ?_
          and_intros
          intro D nD
          have q' : StepQ K H Q (s, (List.range m.toNat).map fun (k : Nat) => p + (k : Int) + 1) := by rw [← show stepG (.leaf z [m]) s p = (s, (List.range m.toNat).map fun (k : Nat) => p + (k : Int) + 1) from (if_neg c1).trans (if_pos c2)]; exact q
          refine lc_range (lo := 0) (n := m.toNat) (fun i H' => Same H H' ∧ H' D = some (.lst (((List.range i).map fun (k : Nat) => p + (k : Int) + 1).map V.int))) ⟨same_upd nD, upd_same⟩ (fun i H' hi h => ?_) (fun H' h => ?_)
          · and_intros
            refine ⟨_, h.2, by rw [List.length_map, List.length_map, List.length_range]; exact szl (by omega), same_mut h.1 nD, ?_⟩
            rw [upd_same, List.range_succ, List.map_append, List.map_append]
            have z : (p + (0 + (i : Int)) + 1) = p + (i : Int) + 1 := by omega
            simp only [z, List.map_cons, List.map_nil]
          · and_intros
            intro p2 n2
            exact q' p2 D u _ (h.1.trans (same_upd n2)) nD (hS.same (h.1.trans (same_upd n2))) (same_upd n2 _ _ h.2) upd_same
        · refine iteB0 (decide_eq_false fun x => c2 (V.str.inj x)) ?_
          and_intros
          cases s with
          | both _ _ => exact hf.elim
          | str l st t =>
            have c3 : z = "stride" := hf
            refine iteB (decide_eq_true (congrArg V.str c3)) ?_
            and_intros
            refine ⟨u, l, m, st, t, p, rfl, hS, ?_⟩
            rw [← show stepG (.leaf z [m]) (.str l st t) p = strStep m l st t p from (if_neg c1).trans (if_neg c2)]
            exact q
          | prs l kn =>
            have c3 : ¬ z = "stride" := hf
            refine iteB0 (decide_eq_false fun x => c3 (V.str.inj x)) ?_
            have c4 : z = "pairs" := by
              rcases good_leaf hg with ⟨e, _⟩ | ⟨_, _, _, e⟩
              · exact absurd e c1
              · rcases e with e | e | e
                · exact absurd e c2
                · exact absurd e c3
                · exact e
            and_intros
            refine iteB (decide_eq_true (congrArg V.str c4)) ?_
            and_intros
            refine ⟨u, l, m, kn, p, N, rfl, hS, m1, m3, ho, hN, ?_⟩
            rw [← show stepG (.leaf z [m]) (.prs l kn) p = (.prs (some p) (knStep m l kn p), lookK (knStep m l kn p) p) from (if_neg c1).trans (if_neg c2)]
            exact q
    | both a b =>
      cases k with
      | zero => simp [good] at hg
      | succ k =>
      have h' : (good k a && good k b) = true := hg
      rw [Bool.and_eq_true] at h'
      cases s with
      | str _ _ _ => exact hf.elim
      | prs _ _ => exact hf.elim
      | both s t =>
      obtain ⟨pa, x, y, rfl, hp, ha, hb⟩ := hG
      obtain ⟨pb, x', y', rfl, hp', ha', hb'⟩ := hS
      and_intros
      refine ⟨x, x', a, s, p, k, N, rfl, ha, ha', h'.1, by omega, by omega, hf.1, ho.1, hN, fun q1 l1 v1 H1 s1 n1 i1 e1 t1 => ?_⟩
      have hp1 := same_t s1 hp
      have hp1' := same_t s1 hp'
      refine ⟨q1, _, rfl, sqt t1, rfl, _, _, rfl, _, _, rfl, rfl, ?_⟩
      and_intros
      refine ⟨y, y', b, t, p, k, N, rfl, hb.same s1, hb'.same s1, h'.2, by omega, by omega, hf.2, ho.2, hN, fun q2 l2 v2 H2 s2 n2 i2 e2 t2 => ?_⟩
      refine ⟨q2, _, rfl, sqt t2, rfl, _, _, rfl, _, _, rfl, rfl, ?_⟩
      and_intros
      intro p3 n3
      and_intros
      refine ⟨⟨_, sql (same_upd n3 _ _ e2)⟩, fun L nL => ?_⟩
      have lm := stepG_len (p := p) h'.1 hf.1 ho.1
      have lt := stepG_len (p := p) h'.2 hf.2 ho.2
      have q' : StepQ K H Q (.both (stepG a s p).1 (stepG b t p).1, (stepG a s p).2 ++ (stepG b t p).2.filter fun e => decide (e ∉ (stepG a s p).2)) := q
      generalize (stepG a s p).2 = mine at e1 lm q'
      generalize (stepG b t p).2 = theirs at e2 lt q'
      have pw : 2 ^ k ≤ 4 := Nat.le_trans (Nat.pow_le_pow_right (by decide) (show k ≤ 2 by omega)) (by decide)
      have e1' : (upd H2 p3 (.tup [v1, v2])) l1 = some (.lst (mine.map V.int)) := same_upd n3 _ _ (s2 _ _ e1)
      have e2' : (upd H2 p3 (.tup [v1, v2])) l2 = some (.lst (theirs.map V.int)) := same_upd n3 _ _ e2
      have s3 : Same H (upd H2 p3 (.tup [v1, v2])) := (s1.trans s2).trans (same_upd n3)
      have t3 : (upd H2 p3 (.tup [v1, v2])) p3 = some (.tup [v1, v2]) := upd_same
      have i1' := (i1.same s2).same (same_upd (o := .tup [v1, v2]) n3)
      have i2' := i2.same (same_upd (o := .tup [v1, v2]) n3)
      generalize upd H2 p3 (.tup [v1, v2]) = H3 at e1' e2' s3 t3 i1' i2' nL ⊢
      refine lc_list (xs := theirs.map V.int) (fun i H' => Same H3 H' ∧ H' L = some (.lst (((theirs.take i).filter fun e => decide (e ∉ mine)).map V.int))) ⟨same_upd nL, upd_same⟩ (fun i H' _ h => sql (h.1 _ _ e2')) (fun i y H' hi h => ?_) (fun H' h => ?_)
      · obtain ⟨m, rfl, em, tk⟩ := at_ints hi
        and_intros
        refine ⟨l1, mine.map V.int, rfl, .inl (sql (h.1 _ _ e1')), rfl, flat_ints _, ?_⟩
        rw [inV_ints]
        by_cases c : m ∈ mine
        · rw [decide_eq_true c]
          refine ⟨_, rfl, iteB0 (b := !true) rfl ?_⟩
          refine ⟨h.1, ?_⟩
          rw [h.2, tk, filter_snoc, if_neg (by simp [c]), List.append_nil]
        · rw [decide_eq_false c]
          refine ⟨_, rfl, iteB (b := !false) rfl ?_⟩
          have z := List.length_filter_le (fun e => decide (e ∉ mine)) (theirs.take i)
          rw [List.length_take] at z
          refine ⟨_, rfl, _, h.2, by rw [List.length_map]; exact szl (by omega), same_mut h.1 nL, ?_⟩
          rw [upd_same, tk, filter_snoc, if_pos (by simp [c]), List.map_append]
          rfl
      · have tk : theirs.take (theirs.map V.int).length = theirs := by rw [List.length_map]; exact List.take_length
        rw [tk] at h
        have z := List.length_filter_le (fun e => decide (e ∉ mine)) theirs
        refine ⟨_, _, mine.map V.int, _, rfl, rfl, h.1 _ _ e1', h.2, by simp only [List.length_map]; exact sz (by omega), fun l4 n4 => ?_⟩
        and_intros
        intro p5 n5
        exact q' p5 l4 (.ref p3) _ ((s3.trans h.1).trans ((same_upd n4).trans (same_upd n5))) ((s3.trans h.1).free n4)
          ⟨p3, v1, v2, rfl, sqt (same_upd n5 _ _ (same_upd n4 _ _ (h.1 _ _ t3))), i1'.same (h.1.trans ((same_upd n4).trans (same_upd n5))), i2'.same (h.1.trans ((same_upd n4).trans (same_upd n5)))⟩
          (by rw [upd_ne (ne_of_none (upd_same (H := H')) n5), upd_same, List.map_append]) upd_same
    | _ => simp [good] at hg
end
end St

namespace St
open PySem PySem.Spec PyProof.Rows L2
abbrev s_guesses : Stmt := topS 13
abbrev N_guesses : List Str := ["guesser", "places", "state", "found", "place", "some"]
abbrev p_guesses : List Str := ["guesser", "places"]
theorem sc_guesses : FnScope N_guesses p_guesses (defScope s_guesses) := ⟨rfl, rfl, rfl, by decide +kernel, rfl, by decide +kernel, by decide +kernel⟩
theorem fit_first : ∀ {k : Nat} {g : G}, good k g = true → Fit g (first0 g)
  | _, .nil, h => by simp [good] at h
  | _, .b1 _, h => by simp [good] at h
  | _, .b3 _ _ _, h => by simp [good] at h
  | 0, .both _ _, h => by simp [good] at h
  | k + 1, .both a b, h => by
    have h' : (good k a && good k b) = true := h
    rw [Bool.and_eq_true] at h'
    exact ⟨fit_first h'.1, fit_first h'.2⟩
  | _, .leaf w ns, _ => by
    by_cases c : w = "stride"
    · rw [show first0 (.leaf w ns) = .str none 0 0 from if_pos c]
      exact c
    · rw [show first0 (.leaf w ns) = .prs none [] from if_neg c]
      exact c
theorem ok_first : ∀ (g : G), okS 0 (first0 g)
  | .nil => ⟨Nat.le_refl _, List.Pairwise.nil, fun _ h => nomatch h⟩
  | .b1 _ => ⟨Nat.le_refl _, List.Pairwise.nil, fun _ h => nomatch h⟩
  | .b3 _ _ _ => ⟨Nat.le_refl _, List.Pairwise.nil, fun _ h => nomatch h⟩
  | .both a b => ⟨ok_first a, ok_first b⟩
  | .leaf w ns => by
    by_cases c : w = "stride"
    · rw [show first0 (.leaf w ns) = .str none 0 0 from if_pos c]
      exact True.intro
    · rw [show first0 (.leaf w ns) = .prs none [] from if_neg c]
      exact ⟨Nat.le_refl _, List.Pairwise.nil, fun _ h => nomatch h⟩
theorem okS_le {N M : Nat} (h : N ≤ M) : ∀ {s : Sg}, okS N s → okS M s
  | .str _ _ _, _ => True.intro
  | .prs _ _, ⟨a, b, c⟩ => ⟨Nat.le_trans a h, b, c⟩
  | .both _ _, ⟨a, b⟩ => ⟨okS_le h a, okS_le h b⟩
theorem stepG_keeps : ∀ {k : Nat} {g : G} {s : Sg} {p : Int} {N : Nat}, good k g = true → Fit g s → okS N s → Fit g (stepG g s p).1 ∧ okS (N + 1) (stepG g s p).1
  | _, .nil, _, _, _, h, _, _ => by simp [good] at h
  | _, .b1 _, _, _, _, h, _, _ => by simp [good] at h
  | _, .b3 _ _ _, _, _, _, h, _, _ => by simp [good] at h
  | 0, .both _ _, _, _, _, h, _, _ => by simp [good] at h
  | k + 1, .both a b, .both s t, p, N, h, f, o => by
    have h' : (good k a && good k b) = true := h
    rw [Bool.and_eq_true] at h'
    have ha := stepG_keeps (p := p) h'.1 f.1 o.1
    have hb := stepG_keeps (p := p) h'.2 f.2 o.2
    exact ⟨⟨ha.1, hb.1⟩, ⟨ha.2, hb.2⟩⟩
  | _, .both _ _, .str _ _ _, _, _, _, f, _ => f.elim
  | _, .both _ _, .prs _ _, _, _, _, f, _ => f.elim
  | k, .leaf z ns, s, p, N, h, f, o => by
    by_cases c1 : z = "none"
    · have e : stepG (.leaf z ns) s p = (s, []) := if_pos c1
      rw [e]
      exact ⟨f, okS_le (Nat.le_succ _) o⟩
    · obtain ⟨n, rfl, h1, h3⟩ := hd_good h c1
      by_cases c2 : z = "next"
      · have e : stepG (.leaf z [n]) s p = (s, (List.range n.toNat).map fun (k : Nat) => p + (k : Int) + 1) := (if_neg c1).trans (if_pos c2)
        rw [e]
        exact ⟨f, okS_le (Nat.le_succ _) o⟩
      · cases s with
        | both _ _ => exact f.elim
        | str l st t =>
          have e : stepG (.leaf z [n]) (.str l st t) p = strStep n l st t p := (if_neg c1).trans (if_neg c2)
          rw [e]
          unfold strStep
          cases l with
          | none => exact ⟨f, True.intro⟩
          | some x => exact ⟨f, True.intro⟩
        | prs l kn =>
          have e : stepG (.leaf z [n]) (.prs l kn) p = (.prs (some p) (knStep n l kn p), lookK (knStep n l kn p) p) := (if_neg c1).trans (if_neg c2)
          rw [e]
          exact ⟨f, knStep_ok h3 o⟩
def stG (g : G) (ps : List Int) : Sg := ps.foldl (fun s p => (stepG g s p).1) (first0 g)
/-- what is guessed behind the last -/
def outG (g : G) : List Int → List (List Int) → Sg → List (List Int)
  | [], acc, _ => acc
  | p :: r, acc, s => outG g r (acc ++ [(stepG g s p).2]) (stepG g s p).1
/-- what is guessed behind each of them -/
def allG (g : G) (ps : List Int) : Nat → List (List Int)
  | 0 => []
  | i + 1 => allG g ps i ++ [(stepG g (stG g (ps.take i)) (ps.getD i 0)).2]
theorem stG_snoc (g : G) (ps : List Int) (p : Int) : stG g (ps ++ [p]) = (stepG g (stG g ps) p).1 := by
  unfold stG
  rw [List.foldl_append]
  rfl
theorem stG_keeps {k : Nat} {g : G} (h : good k g = true) (ps : List Int) : ∀ i : Nat, i ≤ ps.length → Fit g (stG g (ps.take i)) ∧ okS i (stG g (ps.take i))
  | 0, _ => ⟨by rw [List.take_zero]; exact fit_first h, by rw [List.take_zero]; exact ok_first g⟩
  | i + 1, hi => by
    have z := stG_keeps h ps i (by omega)
    have e : ps.take (i + 1) = ps.take i ++ [ps[i]] := by rw [List.take_add_one, List.getElem?_eq_getElem (by omega)]; rfl
    rw [e, stG_snoc]
    exact stepG_keeps h z.1 z.2
theorem allG_len (g : G) (ps : List Int) : ∀ i, (allG g ps i).length = i
  | 0 => rfl
  | i + 1 => by rw [allG, List.length_append, allG_len g ps i]; rfl
theorem allG_at (g : G) (ps : List Int) {i : Nat} : ∀ n, i < n → (allG g ps n)[i]? = some (stepG g (stG g (ps.take i)) (ps.getD i 0)).2
  | 0, h => absurd h (Nat.not_lt_zero _)
  | n + 1, h => by
    unfold allG
    by_cases c : i < n
    · rw [List.getElem?_append_left (by rw [allG_len]; exact c)]
      exact allG_at g ps n c
    · have e : i = n := by omega
      subst e
      rw [List.getElem?_append_right (by rw [allG_len]; exact Nat.le_refl _), allG_len, Nat.sub_self]
      rfl
section
variable {P : Program} {w : World} {K : PySem.W.Frag} {mg : Str → Option Value} {base : Heap} {f f1 f2 f3 f4 f5 f6 dS dM : Addr} {fd fd1 fd2 fd3 fd4 fd5 fd6 : FuncData}
/-- fresh lists of numbers -/
def Fresh (H H' : Hp) (l : Addr) (as : List Addr) (ls : List (List Int)) : Prop := Paired (fun (a : Addr) (e : List Int) => H a = none ∧ a ≠ l ∧ H' a = some (.lst (e.map V.int)) ∧ e.length ≤ 24) as ls
def spGuesses (K : PySem.W.Frag) : Sp := fun vs H Q _ => ∃ (v : V) (g : G) (a : Addr) (ps : List Int), vs = [v, .ref a] ∧ IsG K H g v ∧ good 3 g = true ∧ SqL K H a (ps.map V.int) ∧ ps.length ≤ 10000 ∧
  ∀ (l : Addr) (as : List Addr) (H' : Hp), Same H H' → H l = none → H' l = some (.lst (as.map V.ref)) → Fresh H H' l as (allG g ps ps.length) → Q (.ref l) H'
theorem ok_guesses (T : Nms mg) (B : Tab K w mg dS dM) (D_is_guesser : Df K mg "is_guesser" s_is_guesser p_is_guesser f1 fd1) (D_need_guesser : Df K mg "need_guesser" s_need_guesser p_need_guesser f2 fd2) (D_first_state : Df K mg "first_state" s_first_state p_first_state f3 fd3)
    (D_strided : Df K mg "strided" s_strided p_strided f4 fd4) (D_paired : Df K mg "paired" s_paired p_paired f5 fd5) (D_stepped : Df K mg "stepped" s_stepped p_stepped f6 fd6) (F : Fun K "guesses" "guesses" s_guesses f fd) : FnOk P w K mg base CX0 7 f fd p_guesses (spGuesses K) := by
  have G_need_guesser : FnOk P w K mg base CX0 6 f2 fd2 p_need_guesser (spNeedG K) := ok_need_guesser T B D_is_guesser D_need_guesser
  have G_first_state : FnOk P w K mg base CX0 4 f3 fd3 p_first_state (spFirst K 4) := ok_first_state T D_first_state 4
  have G_stepped : FnOk P w K mg base CX0 5 f6 fd6 p_stepped (spStepped K 4) := ok_stepped T D_strided D_paired D_stepped 4
  refine F.ok sc_guesses (fun vs H Q E h => ?_) (fun cdv A outer s H vs Q E hr h => ?_)
  · obtain ⟨v, g, a, ps, rfl, _⟩ := h
    rfl
  obtain ⟨v, g, a, ps, rfl, hG, hg, hps, hN, q⟩ := h
  refine ⟨_, (pss_cons (ps_expr (pe_call G_need_guesser (hr.mono (by first | decide | omega)) (by rfl) D_need_guesser.m D_need_guesser.F.kp D_need_guesser.b .nil pass0 (pa_cons (pv 0) pa_nil)))
  (pss_cons (ps_set (i := 2) sc_guesses.nd rfl (Or.inl rfl) (pe_call G_first_state (hr.mono (by first | decide | omega)) (by rfl) D_first_state.m D_first_state.F.kp D_first_state.b .nil pass0 (pa_cons (pv 0) pa_nil)))
  (pss_cons (ps_set (i := 3) sc_guesses.nd rfl (Or.inl rfl) (pe_lst pa_nil))
  (pss_cons (ps_for PassesOwn.never rfl (pi_list (pv 1)) (pg_name (i := 4) sc_guesses.nd rfl (Or.inl rfl))
    (pss_cons (ps_asg (pe_call G_stepped (hr.mono (by first | decide | omega)) (by rfl) D_stepped.m D_stepped.F.kp D_stepped.b .nil pass0 (pa_cons (pv 0) (pa_cons (pv 2) (pa_cons (pv 4) pa_nil)))) (pg_tup rfl (pgs_cons (pg_name (i := 2) sc_guesses.nd rfl (Or.inl rfl)) (pgs_cons (pg_name (i := 5) sc_guesses.nd rfl (Or.inl rfl)) pgs_nil))))
    (pss_one (ps_expr (pe_bm PySem.F.plainAttrs_list PySem.F.slot_list_append PySem.F.type_list_append mt_append (pv 3) (pa_cons (pv 5) pa_nil))))))
  (pss_one (ps_ret (pv 3))))))), ?_⟩
  and_intros
  refine ⟨v, g, rfl, hG, hg, fun H1 s1 => ?_⟩
  and_intros
  refine ⟨v, g, 3, rfl, hG.same s1, hg, by omega, by omega, fun v2 H2 s2 i2 => ?_⟩
  and_intros
  intro L nL
  and_intros
  refine ⟨⟨_, same_l ((s1.trans s2).trans (same_upd nL)) hps⟩, ?_⟩
  have nL0 : H L = none := (s1.trans s2).free nL
  refine for_list (xs := ps.map V.int) (fun i σ H' => ∃ y5 y6 v3 as, σ = [some v, some (.ref a), some v3, some (.ref L), y5, y6] ∧ Same H2 H' ∧ IsS K H' (stG g (ps.take i)) v3 ∧ H' L = some (.lst (as.map V.ref)) ∧ Fresh H H' L as (allG g ps i))
    ⟨none, none, v2, [], rfl, same_upd nL, i2.same (same_upd nL), upd_same, .nil⟩ (fun i σ H' _ h => ?_) (fun i x σ H' hi h => ?_) (fun σ H' h => ?_)
  · obtain ⟨y5, y6, v3, as, rfl, s3, i3, e3, f3⟩ := h
    exact same_l ((s1.trans s2).trans s3) hps
  · obtain ⟨y5, y6, v3, as, rfl, s3, i3, e3, f3⟩ := h
    obtain ⟨p, rfl, ep, tk⟩ := at_ints hi
    have hi' : i < ps.length := (List.getElem?_eq_some_iff.mp ep).1
    and_intros
    have kp := stG_keeps hg ps i (by omega)
    refine ⟨v, v3, g, stG g (ps.take i), p, 3, i, rfl, ((hG.same s1).same s2).same s3, i3, hg, by omega, by omega, kp.1, kp.2, by omega, fun q1 l1 v4 H4 s4 n4 i4 e4 t4 => ?_⟩
    refine ⟨q1, _, rfl, sqt t4, rfl, _, _, rfl, _, _, rfl, rfl, ?_⟩
    have la : as.length = i := by rw [Paired.length f3, allG_len]
    have nl : l1 ≠ L := (ne_of_none e3 n4).symm
    have sL : Same H2 (upd H4 L (.lst (as.map V.ref ++ [.ref l1]))) := same_mut (s3.trans s4) nL
    and_intros
    and_intros
    refine ⟨.inl ⟨rfl, _, sql (s4 _ _ e3)⟩, _, rfl, _, _, _, rfl, rfl, s4 _ _ e3, by simp only [List.length_map]; exact szl (by omega), ?_⟩
    have tk' : stG g (ps.take (i + 1)) = (stepG g (stG g (ps.take i)) p).1 := by rw [tk, stG_snoc]
    have gd : ps.getD i 0 = p := by rw [List.getD_eq_getElem?_getD, ep]; rfl
    have sz4 := stepG_len (p := p) hg kp.1 kp.2
    refine ⟨_, _, v4, as ++ [l1], rfl, sL, ?_, by rw [upd_same, List.map_append]; rfl, ?_⟩
    · rw [tk']
      exact i4.imm (Imm.upd ⟨_, s4 _ _ e3⟩)
    · have z0 : H l1 = none := ((s1.trans s2).trans s3).free n4
      unfold allG
      rw [gd]
      refine Paired.snoc (Paired.mapP f3 fun x y z => ⟨z.1, z.2.1, ?_, z.2.2.2⟩) ⟨z0, nl, by rw [upd_ne nl]; exact e4, by omega⟩
      rw [upd_ne z.2.1]
      exact s4 _ _ z.2.2.1
  · obtain ⟨y5, y6, v3, as, rfl, s3, i3, e3, f3⟩ := h
    rw [List.length_map] at f3
    and_intros
    exact q L as H' ((s1.trans s2).trans s3) nL0 e3 f3
end
end St

namespace St
open PySem PySem.Spec PyProof.Rows L2
abbrev s__law_guessed : Stmt := topS 19
abbrev N__law_guessed : List Str := ["_law_guesser_here", "_law_places_here", "_law_here", "_law_one", "_law_strides", "_law_k", "_law_some", "_law_found", "_law_place"]
abbrev p__law_guessed : List Str := ["_law_guesser_here", "_law_places_here"]
theorem sc__law_guessed : FnScope N__law_guessed p__law_guessed (defScope s__law_guessed) := ⟨rfl, rfl, rfl, by decide +kernel, rfl, by decide +kernel, by decide +kernel⟩
def dif (ps : List Int) (i : Nat) : Int := ps.getD (i + 1) 0 - ps.getD i 0
def difs (ps : List Int) : List Int := (List.range (ps.length - 1)).map (dif ps)
def strideG (n p : Int) (s : List Int) : List Int := if (s.length : Nat) < n ∨ s ≠ List.replicate s.length (s.headD 0) ∨ s.headD 0 = 0 then [] else [p + s.headD 0]
def fnd (ps : List Int) (p : Int) : Nat → List Int
  | 0 => []
  | i + 1 => if ps.getD (ps.length - 1 - i - 1) 0 = p ∧ ps.getD (ps.length - 1 - i) 0 ∉ fnd ps p i then fnd ps p i ++ [ps.getD (ps.length - 1 - i) 0] else fnd ps p i
/-- the law's own: looking back -/
def lawG (ps : List Int) (p : Int) : G → List Int
  | .both a b => lawG ps p a ++ (lawG ps p b).filter fun e => decide (e ∉ lawG ps p a)
  | .leaf w ns => if w = "next" then [p + 1, p + 2, p + 3].take (hd0 ns).toNat
    else if w = "stride" then strideG (hd0 ns) p ((difs ps).drop ((difs ps).length - (hd0 ns).toNat))
    else if w = "none" then []
    else (fnd ps p (ps.length - 1)).take (hd0 ns).toNat
  | _ => []
theorem fnd_len (ps : List Int) (p : Int) : ∀ i, (fnd ps p i).length ≤ i
  | 0 => Nat.le_refl _
  | i + 1 => by
    have := fnd_len ps p i
    unfold fnd
    split
    · rw [List.length_append]
      show _ + 1 ≤ _
      omega
    · omega
theorem strideG_len (n p : Int) (s : List Int) : (strideG n p s).length ≤ 1 := by
  unfold strideG
  split
  · exact Nat.zero_le _
  · exact Nat.le_refl _
theorem lawG_len : ∀ {k : Nat} {g : G} {ps : List Int} {p : Int}, good k g = true → (lawG ps p g).length ≤ 3 * 2 ^ k
  | _, .nil, _, _, h => by simp [good] at h
  | _, .b1 _, _, _, h => by simp [good] at h
  | _, .b3 _ _ _, _, _, h => by simp [good] at h
  | 0, .both _ _, _, _, h => by simp [good] at h
  | k + 1, .both a b, ps, p, h => by
    have h' : (good k a && good k b) = true := h
    rw [Bool.and_eq_true] at h'
    have ha := lawG_len (ps := ps) (p := p) h'.1
    have hb := lawG_len (ps := ps) (p := p) h'.2
    show (lawG ps p a ++ (lawG ps p b).filter _).length ≤ _
    have z := List.length_filter_le (fun e => decide (e ∉ lawG ps p a)) (lawG ps p b)
    rw [List.length_append, Nat.pow_succ]
    omega
  | k, .leaf z ns, ps, p, h => by
    have pw := pow_ge k
    by_cases c1 : z = "none"
    · subst c1
      have e : lawG ps p (.leaf "none" ns) = [] := rfl
      rw [e]
      exact Nat.zero_le _
    · obtain ⟨n, rfl, h1, h3⟩ := hd_good h c1
      unfold lawG
      split
      · rw [List.length_take]
        show min _ 3 ≤ _
        omega
      · split
        · have := strideG_len (hd0 [n]) p ((difs ps).drop ((difs ps).length - (hd0 [n]).toNat))
          omega
        · rw [List.length_take]
          have : (hd0 [n]).toNat ≤ 3 := by show n.toNat ≤ 3; omega
          omega
section
variable {P : Program} {w : World} {K : PySem.W.Frag} {mg : Str → Option Value} {base : Heap} {f : Addr} {fd : FuncData}
def spGuessed (K : PySem.W.Frag) (n : Nat) : Sp := fun vs H Q _ => ∃ (v : V) (a : Addr) (g : G) (ps : List Int) (p : Int) (k : Nat), vs = [v, .ref a] ∧ IsG K H g v ∧ good k g = true ∧ k < n ∧ k ≤ 3 ∧ SqL K H a (ps.map V.int) ∧ ps.getLast? = some p ∧ ps.length ≤ 1000 ∧
  ∀ (l : Addr) H', H l = none → Same H H' → H' l = some (.lst ((lawG ps p g).map V.int)) → Q (.ref l) H'
theorem good_both {z : Str} {ns : List Int} {k : Nat} (hk : k ≤ 3) (hg : good k (.leaf z ns) = true) : z ≠ ("both" : Str) := (isG_good k _ hg hk).2
theorem ok__law_guessed (T : Nms mg) (D__law_guessed : Df K mg "_law_guessed" s__law_guessed p__law_guessed f fd) : ∀ n : Nat, FnOk P w K mg base CX0 n f fd p__law_guessed (spGuessed K n)
  | 0 => fn_zero fun vs H Q E ⟨v, a, g, ps, p, k, _, _, _, h, _⟩ => by omega
  | n + 1 => by
    have G__law_guessed := ok__law_guessed T D__law_guessed n
    refine D__law_guessed.F.ok sc__law_guessed (fun vs H Q E h => ?_) (fun cdv A outer s H vs Q E hr h => ?_)
    · obtain ⟨v, a, g, ps, p, k, rfl, _⟩ := h
      rfl
    obtain ⟨v, a, g, ps, p, k, rfl, hG, hg, hk, hk3, hps, hp, hl, q⟩ := h
    refine ⟨_, (pss_cons (ps_set (i := 2) sc__law_guessed.nd rfl (Or.inl rfl) (pe_ix ix_list (pv 1) (pe_un un_neg pe_int) (fun _ _ => rfl)))
  (pss_cons (ps_if (pt_cmpR op_eq (pe_ix ix_tup (pv 0) pe_int (fun _ _ => rfl)) pe_str (nomark _))
    (pss_cons (ps_set (i := 3) sc__law_guessed.nd rfl (Or.inr rfl) (pe_call G__law_guessed (hr.mono (by first | decide | omega)) (by rfl) D__law_guessed.m D__law_guessed.F.kp D__law_guessed.b .nil pass0 (pa_cons (pe_ix ix_tup (pv 0) pe_int (fun _ _ => rfl)) (pa_cons (pv 1) pa_nil))))
    (pss_one (ps_ret (pe_op op_cat (pv 3) (pe_lc (own := [("_law_place", 8)]) (g := gName 8) rfl sc__law_guessed.nd (pi_list (pe_call G__law_guessed (hr.mono (by first | decide | omega)) (by rfl) D__law_guessed.m D__law_guessed.F.kp D__law_guessed.b .nil pass0 (pa_cons (pe_ix ix_tup (pv 0) pe_int (fun _ _ => rfl)) (pa_cons (pv 1) pa_nil)))) (blkOk_by (own := [("_law_place", 8)]) (N := N__law_guessed) (sc := defScope s__law_guessed) (by decide +kernel)) (fun _ _ _ _ _ => pg_name (i := 8) sc__law_guessed.nd rfl (Or.inl rfl)) (fun _ _ _ _ _ => pts_one (pt_cmpR (notIn_seqK (K := K)) (pv 8) (pv 3) (by with_unfolding_all rfl))) (fun _ _ _ _ _ => (pv 8)))))))
    (pss_nil))
  (pss_cons (ps_if (pt_cmpR op_eq (pe_ix ix_tup (pv 0) pe_int (fun _ _ => rfl)) pe_str (nomark _))
    (pss_one (ps_ret (pe_slice sl_list (pe_lst (pa_cons (pe_op op_add (pv 2) pe_int) (pa_cons (pe_op op_add (pv 2) pe_int) (pa_cons (pe_op op_add (pv 2) pe_int) pa_nil)))) po_none (po_some (pe_ix ix_tup (pv 0) pe_int (fun _ _ => rfl))))))
    (pss_nil))
  (pss_cons (ps_if (pt_cmpR op_eq (pe_ix ix_tup (pv 0) pe_int (fun _ _ => rfl)) pe_str (nomark _))
    (pss_cons (ps_setLc (i := 4) (own := [("_law_k", 5)]) (g := gName 5) rfl sc__law_guessed.nd rfl rfl (sw_true rfl rfl rfl (by decide +kernel)) (pi_range2 rfl T.n_range (pa_cons pe_int (pa_cons (pe_callB call_len_seq (by rfl) T.n_len (by decide +kernel) (pa_cons (pv 1) pa_nil)) pa_nil))) (blkOk_by (own := [("_law_k", 5)]) (N := N__law_guessed) (sc := defScope s__law_guessed) (by decide +kernel)) (fun _ _ _ _ _ => pg_name (i := 5) sc__law_guessed.nd rfl (Or.inl rfl)) (fun _ _ _ _ _ => pts_nil) (fun _ _ _ _ _ => (pe_op op_sub (pe_ix (ix_listK (K := K)) (pv 1) (pv 5) (fun _ _ => rfl)) (pe_ix (ix_listK (K := K)) (pv 1) (pe_op op_sub (pv 5) pe_int) (fun _ _ => rfl)))))
    (pss_cons (ps_set (i := 6) sc__law_guessed.nd rfl (Or.inl rfl) (pe_slice sl_list (pv 4) (po_some (pe_callB (call_max2 rfl) (by rfl) T.n_max (by decide +kernel) (pa_cons pe_int (pa_cons (pe_op op_sub (pe_callB call_len_seq (by rfl) T.n_len (by decide +kernel) (pa_cons (pv 4) pa_nil)) (pe_ix ix_tup (pv 0) pe_int (fun _ _ => rfl))) pa_nil)))) po_none))
    (pss_cons (ps_if (PW.pt (pw_or (pt_cmpR op_lt (pe_callB call_len_seq (by rfl) T.n_len (by decide +kernel) (pa_cons (pv 6) pa_nil)) (pe_ix ix_tup (pv 0) pe_int (fun _ _ => rfl)) (nomark _)) (pw_or (pt_cmpR (op_neD hr.units) (pv 6) (pe_op op_rep (pe_lst (pa_cons (pe_ix ix_list (pv 6) pe_int (fun _ _ => rfl)) pa_nil)) (pe_callB call_len_seq (by rfl) T.n_len (by decide +kernel) (pa_cons (pv 6) pa_nil))) (nomark _)) (pw_or1 (pt_cmpR op_eq (pe_ix ix_list (pv 6) pe_int (fun _ _ => rfl)) pe_int (nomark _))))))
      (pss_one (ps_ret (pe_lst pa_nil)))
      (pss_nil))
    (pss_one (ps_ret (pe_lst (pa_cons (pe_op op_add (pv 2) (pe_ix ix_list (pv 6) pe_int (fun _ _ => rfl))) pa_nil)))))))
    (pss_nil))
  (pss_cons (ps_if (pt_cmpR op_eq (pe_ix ix_tup (pv 0) pe_int (fun _ _ => rfl)) pe_str (nomark _))
    (pss_one (ps_ret (pe_lst pa_nil)))
    (pss_nil))
  (pss_cons (ps_set (i := 7) sc__law_guessed.nd rfl (Or.inl rfl) (pe_lst pa_nil))
  (pss_cons (ps_for PassesOwn.never rfl (pi_range3 rfl T.n_range (pa_cons (pe_op op_sub (pe_callB call_len_seq (by rfl) T.n_len (by decide +kernel) (pa_cons (pv 1) pa_nil)) pe_int) (pa_cons pe_int (pa_cons (pe_un un_neg pe_int) pa_nil)))) (pg_name (i := 5) sc__law_guessed.nd rfl (Or.inl rfl))
    (pss_one (ps_if (PW.pt (pw_and (pt_cmpR op_eq (pe_ix ix_list (pv 1) (pe_op op_sub (pv 5) pe_int) (fun _ _ => rfl)) (pv 2) (nomark _)) (pw_and1 (pt_cmpR op_notIn_seq (pe_ix ix_list (pv 1) (pv 5) (fun _ _ => rfl)) (pv 7) (by with_unfolding_all rfl)))))
      (pss_one (ps_expr (pe_bm PySem.F.plainAttrs_list PySem.F.slot_list_append PySem.F.type_list_append mt_append (pv 7) (pa_cons (pe_ix ix_list (pv 1) (pv 5) (fun _ _ => rfl)) pa_nil))))
      (pss_nil))))
  (pss_one (ps_ret (pe_slice sl_list (pv 7) po_none (po_some (pe_ix ix_tup (pv 0) pe_int (fun _ _ => rfl))))))))))))), ?_⟩
    and_intros
    refine ⟨_, _, _, _, rfl, rfl, hps, at_last hp, ?_⟩
    and_intros
    cases g with
    | leaf z ns =>
      obtain ⟨b, rfl, hb⟩ := hG
      have hz := good_both hk3 hg
      and_intros
      refine iteB0 (decide_eq_false fun x => hz (V.str.inj x)) ?_
      and_intros
      by_cases c1 : z = "next"
      · refine iteB (decide_eq_true (congrArg V.str c1)) ?_
        obtain ⟨m, rfl, m1, m3⟩ := hd_good hg (fun e => by rw [c1] at e; exact absurd e (by decide))
        and_intros
        intro l1 n1
        have sl1 : SqL K (upd H l1 (.lst [.int (p + 1), .int (p + 2), .int (p + 3)])) l1 [.int (p + 1), .int (p + 2), .int (p + 3)] := sql upd_same
        have hb1 := same_t (same_upd (o := .lst [.int (p + 1), .int (p + 2), .int (p + 3)]) n1) hb
        and_intros
        intro l2 n2
        refine q l2 _ ((same_upd n1).free n2) (by ac_rfl) ?_
        rw [upd_same, cut_to (by omega)]
        unfold lawG
        rw [if_pos c1, List.map_take]
        rfl
      · refine iteB0 (decide_eq_false fun x => c1 (V.str.inj x)) ?_
        and_intros
        by_cases c2 : z = "stride"
        · refine iteB (decide_eq_true (congrArg V.str c2)) ?_
          obtain ⟨m, rfl, m1, m3⟩ := hd_good hg (fun e => by rw [c2] at e; exact absurd e (by decide))
          have lnp : 0 < ps.length := by
            refine List.length_pos_iff.mpr ?_
            rintro rfl
            cases hp
          and_intros
          refine ⟨_, _, rfl, ⟨by decide, by decide, by rw [List.length_map]; omega, by rw [List.length_map]; omega⟩, ?_⟩
          rw [show (((List.map V.int ps).length : Nat) - (1 : Int)).toNat = ps.length - 1 by rw [List.length_map]; omega]
          intro D nD
          refine lc_range (lo := 1) (n := ps.length - 1) (fun i H' => Same H H' ∧ H' D = some (.lst (((List.range i).map (dif ps)).map V.int))) ⟨same_upd nD, upd_same⟩ (fun i H' hi h => ?_) (fun H' h => ?_)
          · and_intros
            refine ⟨_, _, _, _, rfl, rfl, same_l h.1 hps, at_ps (i := i + 1) (by omega) (by omega), ?_⟩
            and_intros
            refine ⟨_, _, _, _, rfl, rfl, same_l h.1 hps, at_ps (i := i) (by omega) (by omega), ?_⟩
            and_intros
            refine ⟨_, h.2, by simp only [List.length_map, List.length_range]; exact szl (by omega), same_mut h.1 nD, ?_⟩
            rw [upd_same, List.range_succ, List.map_append, List.map_append]
            rfl
          · have hD : H' D = some (.lst ((difs ps).map V.int)) := h.2
            have hb1 := same_t h.1 hb
            have hl1 : (difs ps).length = ps.length - 1 := by unfold difs; rw [List.length_map, List.length_range]
            and_intros
            have mx : (if (((List.map V.int (difs ps)).length : Nat) : Int) - m > 0 then (((List.map V.int (difs ps)).length : Nat) : Int) - m else 0) = (((difs ps).length - m.toNat : Nat) : Int) := by
              rw [List.length_map]
              split <;> omega
            refine ⟨_, _, rfl, (((difs ps).length - m.toNat : Nat) : Int), congrArg V.int mx, ?_⟩
            refine ⟨_, _, rfl, sql hD, fun L nL => ?_⟩
            rw [cut_from (by omega), Int.toNat_natCast, ← List.map_drop]
            generalize hs : (difs ps).drop ((difs ps).length - m.toNat) = sm
            have lsm : sm.length ≤ 3 := by rw [← hs, List.length_drop]; omega
            have hL : (upd H' L (.lst (sm.map V.int))) L = some (.lst (sm.map V.int)) := upd_same
            have s2 : Same H (upd H' L (.lst (sm.map V.int))) := h.1.trans (same_upd nL)
            have hb2 := same_t (same_upd (o := .lst (sm.map V.int)) nL) hb1
            have qq : ∀ (l : Addr) H', H l = none → Same H H' → H' l = some (.lst ((strideG m p sm).map V.int)) → Q (.ref l) H' := by
              have e : lawG ps p (.leaf z [m]) = strideG m p sm := by
                unfold lawG
                rw [if_neg c1, if_pos c2, ← hs]
                rfl
              rw [← e]
              exact q
            generalize upd H' L (.lst (sm.map V.int)) = H2 at hL s2 hb2 ⊢
            clear hb1 hs q
            and_intros
            have none_ : strideG m p sm = [] → ∀ H', Same H2 H' → ∀ l, H' l = none → Q (.ref l) (upd H' l (.lst [])) := fun e H' s3 l nl => qq l _ ((s2.trans s3).free nl) ((s2.trans s3).trans (same_upd nl)) (by rw [upd_same, e]; rfl)
            by_cases cl : ((sm.length : Nat) : Int) < m
            · refine iteB (decide_eq_true (by rw [List.length_map]; exact cl)) ?_
              refine iteB rfl ?_
              and_intros
              exact none_ (if_pos (.inl cl)) _ (Same.refl _)
            · refine iteB0 (decide_eq_false (by rw [List.length_map]; exact cl)) ?_
              have smp : 0 < sm.length := by omega
              have at0 : atI (sm.map V.int) 0 = some (.int (sm.headD 0)) := by
                cases sm with
                | nil => exact absurd smp (Nat.lt_irrefl _)
                | cons a r => exact atI_nat (j := 0) rfl
              and_intros
              refine ⟨_, _, _, _, rfl, rfl, sql hL, at0, ?_⟩
              and_intros
              intro l1 n1
              have hL1 : (upd H2 l1 (.lst [.int (sm.headD 0)])) L = some (.lst (sm.map V.int)) := same_upd n1 _ _ hL
              and_intros
              refine ⟨_, _, _, rfl, rfl, upd_same, by rw [List.length_map]; omega, by rw [List.length_map]; omega, by rw [List.length_map, Int.toNat_natCast]; exact sz (by show 1 * _ ≤ _; omega), fun l2 n2 => ?_⟩
              rw [List.length_map, Int.toNat_natCast, flat_rep]
              refine ⟨.list (sm.map .int), .list ((List.replicate sm.length (sm.headD 0)).map .int), dp_ints (sql (same_upd n2 _ _ hL1)), dp_ints (sql upd_same), lay_ints _, lay_ints _, ?_⟩
              rw [eqv_ints]
              have s3 : Same H2 (upd (upd H2 l1 (.lst [.int (sm.headD 0)])) l2 (.lst ((List.replicate sm.length (sm.headD 0)).map V.int))) := (same_upd n1).trans (same_upd n2)
              generalize upd (upd H2 l1 (.lst [.int (sm.headD 0)])) l2 (.lst ((List.replicate sm.length (sm.headD 0)).map V.int)) = H3 at s3 ⊢
              have hL3 := s3 _ _ hL
              by_cases cr : sm = List.replicate sm.length (sm.headD 0)
              · rw [decide_eq_true cr]
                refine ⟨_, rfl, iteB0 (b := !true) rfl ?_⟩
                and_intros
                refine ⟨_, _, _, _, rfl, rfl, sql hL3, at0, ?_⟩
                and_intros
                by_cases c0 : sm.headD 0 = 0
                · refine iteB (decide_eq_true (congrArg V.int c0)) ?_
                  and_intros
                  exact none_ (if_pos (.inr (.inr c0))) _ s3
                · refine iteB0 (decide_eq_false fun z => c0 (V.int.inj z)) ?_
                  and_intros
                  refine ⟨_, _, _, _, rfl, rfl, sql hL3, at0, ?_⟩
                  and_intros
                  intro l nl
                  refine qq l _ ((s2.trans s3).free nl) ((s2.trans s3).trans (same_upd nl)) ?_
                  have e : strideG m p sm = [p + sm.headD 0] := if_neg (fun z => z.elim cl fun z => z.elim (fun z => z cr) c0)
                  rw [upd_same, e]
                  rfl
              · rw [decide_eq_false cr]
                refine ⟨_, rfl, iteB (b := !false) rfl ?_⟩
                refine iteB rfl ?_
                and_intros
                exact none_ (if_pos (.inr (.inl cr))) _ s3
        · refine iteB0 (decide_eq_false fun x => c2 (V.str.inj x)) ?_
          and_intros
          by_cases c3 : z = "none"
          · refine iteB (decide_eq_true (congrArg V.str c3)) ?_
            and_intros
            intro l nl
            refine q l _ nl (same_upd nl) ?_
            rw [upd_same]
            unfold lawG
            rw [if_neg c1, if_neg c2, if_pos c3]
            rfl
          · refine iteB0 (decide_eq_false fun x => c3 (V.str.inj x)) ?_
            and_intros
            intro D nD
            have hps1 := same_l (same_upd (o := .lst []) nD) hps
            and_intros
            refine ⟨_, _, _, _, rfl, RgC.neg (by rw [List.length_map]; omega) (by rw [List.length_map]; omega) (by decide) (by decide), ?_⟩
            refine for_rangeC (fun i σ H' => ∃ y3 y4 y5 y6 y8, σ = [some (.ref b), some (.ref a), some (.int p), y3, y4, y5, y6, some (.ref D), y8] ∧ Same H H' ∧ H' D = some (.lst ((fnd ps p i).map V.int)))
              ⟨none, none, none, none, none, rfl, same_upd nD, upd_same⟩ (fun i σ H' hi h => ?_) (fun σ H' h => ?_)
            · rw [List.length_map] at hi
              have hi' : i < ps.length - 1 := by omega
              obtain ⟨y3, y4, y5, y6, y8, rfl, s1, eD⟩ := h
              have hps2 := same_l s1 hps
              have lf := fnd_len ps p i
              have ek : (((List.map V.int ps).length : Nat) : Int) - 1 + (i : Nat) * -1 = ((ps.length - 1 - i : Nat) : Int) := by rw [List.length_map]; omega
              rw [ek]
              and_intros
              refine ⟨_, _, _, _, rfl, rfl, hps2, at_ps (i := ps.length - 1 - i - 1) (by omega) (by omega), ?_⟩
              and_intros
              have ef : fnd ps p (i + 1) = if ps.getD (ps.length - 1 - i - 1) 0 = p ∧ ps.getD (ps.length - 1 - i) 0 ∉ fnd ps p i then fnd ps p i ++ [ps.getD (ps.length - 1 - i) 0] else fnd ps p i := rfl
              by_cases cp : ps.getD (ps.length - 1 - i - 1) 0 = p
              · refine iteB (decide_eq_true (congrArg V.int cp)) ?_
                and_intros
                refine ⟨_, _, _, _, rfl, rfl, hps2, at_ps (i := ps.length - 1 - i) rfl (by omega), ?_⟩
                and_intros
                refine ⟨flat_ints _, ?_⟩
                rw [inV_ints]
                by_cases cm : ps.getD (ps.length - 1 - i) 0 ∈ fnd ps p i
                · rw [decide_eq_true cm]
                  refine ⟨_, rfl, iteB0 (b := !true) rfl ?_⟩
                  rw [if_neg (fun z => z.2 cm)] at ef
                  rw [ef]
                  exact ⟨_, _, _, _, _, rfl, s1, eD⟩
                · rw [decide_eq_false cm]
                  refine ⟨_, rfl, iteB (b := !false) rfl ?_⟩
                  rw [if_pos ⟨cp, cm⟩] at ef
                  and_intros
                  refine ⟨.inl ⟨rfl, _, sql eD⟩, ?_⟩
                  and_intros
                  refine ⟨_, _, _, _, rfl, rfl, hps2, at_ps (i := ps.length - 1 - i) rfl (by omega), ?_⟩
                  and_intros
                  refine ⟨_, _, _, rfl, rfl, eD, by rw [List.length_map]; exact szl (by omega), ?_⟩
                  rw [ef, List.map_append]
                  exact ⟨_, _, _, _, _, rfl, same_mut s1 nD, upd_same⟩
              · refine iteB0 (decide_eq_false fun z => cp (V.int.inj z)) ?_
                rw [if_neg (fun z => cp z.1)] at ef
                rw [ef]
                exact ⟨_, _, _, _, _, rfl, s1, eD⟩
            · obtain ⟨y3, y4, y5, y6, y8, rfl, s1, eD⟩ := h
              have en : ((((List.map V.int ps).length : Nat) : Int) - 1 - 0).toNat = ps.length - 1 := by rw [List.length_map]; omega
              rw [en] at eD
              obtain ⟨m, rfl, m1, m3⟩ := hd_good hg c3
              have hb1 := same_t s1 hb
              and_intros
              intro l nl
              refine q l _ (s1.free nl) (s1.trans (same_upd nl)) ?_
              rw [upd_same, cut_to (by omega)]
              unfold lawG
              rw [if_neg c1, if_neg c2, if_neg c3, List.map_take]
              rfl
    | both a b =>
      cases k with
      | zero => simp [good] at hg
      | succ k =>
      have h' : (good k a && good k b) = true := hg
      rw [Bool.and_eq_true] at h'
      obtain ⟨pa, x, y, rfl, hp', ha, hb⟩ := hG
      and_intros
      refine ⟨x, _, a, ps, p, k, rfl, ha, h'.1, by omega, by omega, hps, hp, hl, fun l1 H1 n1 s1 e1 => ?_⟩
      have hp1 := same_t s1 hp'
      and_intros
      refine ⟨y, _, b, ps, p, k, rfl, hb.same s1, h'.2, by omega, by omega, same_l s1 hps, hp, hl, fun l2 H2 n2 s2 e2 => ?_⟩
      and_intros
      refine ⟨⟨_, sql e2⟩, fun L nL => ?_⟩
      have la := lawG_len (p := p) (ps := ps) h'.1
      have lb := lawG_len (p := p) (ps := ps) h'.2
      have q' : ∀ (l : Addr) H', H l = none → Same H H' → H' l = some (.lst ((lawG ps p a ++ (lawG ps p b).filter fun e => decide (e ∉ lawG ps p a)).map V.int)) → Q (.ref l) H' := q
      generalize lawG ps p a = mine at e1 la q'
      generalize lawG ps p b = theirs at e2 lb q'
      have pw : 2 ^ k ≤ 4 := Nat.le_trans (Nat.pow_le_pow_right (by decide) (show k ≤ 2 by omega)) (by decide)
      refine lc_list (xs := theirs.map V.int) (fun i H' => Same H2 H' ∧ H' L = some (.lst (((theirs.take i).filter fun e => decide (e ∉ mine)).map V.int))) ⟨same_upd nL, upd_same⟩ (fun i H' _ h => sql (h.1 _ _ e2)) (fun i y H' hi h => ?_) (fun H' h => ?_)
      · obtain ⟨m, rfl, em, tk⟩ := at_ints hi
        and_intros
        refine ⟨l1, mine.map V.int, rfl, .inl (sql (h.1 _ _ (s2 _ _ e1))), rfl, flat_ints _, ?_⟩
        rw [inV_ints]
        by_cases c : m ∈ mine
        · rw [decide_eq_true c]
          refine ⟨_, rfl, iteB0 (b := !true) rfl ?_⟩
          refine ⟨h.1, ?_⟩
          rw [h.2, tk, filter_snoc, if_neg (by simp [c]), List.append_nil]
        · rw [decide_eq_false c]
          refine ⟨_, rfl, iteB (b := !false) rfl ?_⟩
          have z := List.length_filter_le (fun e => decide (e ∉ mine)) (theirs.take i)
          rw [List.length_take] at z
          refine ⟨_, rfl, _, h.2, by rw [List.length_map]; exact szl (by omega), same_mut h.1 nL, ?_⟩
          rw [upd_same, tk, filter_snoc, if_pos (by simp [c]), List.map_append]
          rfl
      · have tk : theirs.take (theirs.map V.int).length = theirs := by rw [List.length_map]; exact List.take_length
        rw [tk] at h
        have z := List.length_filter_le (fun e => decide (e ∉ mine)) theirs
        refine ⟨_, _, mine.map V.int, _, rfl, rfl, h.1 _ _ (s2 _ _ e1), h.2, by simp only [List.length_map]; exact sz (by omega), fun l4 n4 => ?_⟩
        refine q' l4 _ ((s1.trans s2).free (h.1.free n4)) (((s1.trans s2).trans h.1).trans (same_upd n4)) ?_
        rw [upd_same, List.map_append]
    | _ => simp [good] at hg
end
end St

namespace St
open PySem PySem.Spec PyProof.Rows L2
abbrev s__law_places : Stmt := topS 18
abbrev N__law_places : List Str := ["_law_row", "_law_places_here", "_law_most", "_law_found", "_law_here", "_law_far", "_law_k", "_law_way"]
abbrev p__law_places : List Str := ["_law_row", "_law_places_here", "_law_most"]
theorem sc__law_places : FnScope N__law_places p__law_places (defScope s__law_places) := ⟨rfl, rfl, rfl, by decide +kernel, rfl, by decide +kernel, by decide +kernel⟩
section
variable {P : Program} {w : World} {K : PySem.W.Frag} {mg : Str → Option Value} {base : Heap} {f fT : Addr} {fd fdT : FuncData}
def spPlaces (K : PySem.W.Frag) : Sp := fun vs H Q _ => ∃ (r : Addr) (m : Int) (c : Nat), vs = [.ref r, .int m, .int (c : Int)] ∧ Row K H r ∧ 0 < m ∧ c ≤ 1000 ∧
  ∀ (D : Addr) (ns : List Int) H', H D = none → D ≠ r → SameX r H H' → Row K H' r → H' D = some (.lst (ns.map V.int)) → ns.length ≤ c → (∀ n ∈ ns, 0 ≤ n ∧ n < m) → Q (.ref D) H'
theorem ok__law_places (T : Nms mg) (D__law_taken : Df K mg "_law_taken" s__law_taken p__law_taken fT fdT) (F : Fun K "_law_places" "_law_places" s__law_places f fd) : FnOk P w K mg base CX0 2 f fd p__law_places (spPlaces K) := by
  have G__law_taken : FnOk P w K mg base CX0 1 fT fdT p__law_taken (spTaken K) := ok__law_taken D__law_taken.F T
  refine F.ok sc__law_places (fun vs H Q E h => ?_) (fun cdv A outer s H vs Q E hr h => ?_)
  · obtain ⟨r, m, c, rfl, _⟩ := h
    rfl
  obtain ⟨r, m, c, rfl, hR, hm, hc, q⟩ := h
  refine ⟨_, (pss_cons (ps_set (i := 3) sc__law_places.nd rfl (Or.inl rfl) (pe_lst pa_nil))
  (pss_cons (ps_set (i := 4) sc__law_places.nd rfl (Or.inl rfl) (pe_call G__law_taken (hr.mono (by first | decide | omega)) (by rfl) D__law_taken.m D__law_taken.F.kp D__law_taken.b .nil pass0 (pa_cons (pv 0) (pa_cons (pv 1) pa_nil))))
  (pss_cons (ps_set (i := 5) sc__law_places.nd rfl (Or.inl rfl) (pe_op op_sub (pe_call G__law_taken (hr.mono (by first | decide | omega)) (by rfl) D__law_taken.m D__law_taken.F.kp D__law_taken.b .nil pass0 (pa_cons (pv 0) (pa_cons pe_int pa_nil))) pe_int))
  (pss_cons (ps_for PassesOwn.never rfl (pi_range1 rfl T.n_range (pa_cons (pe_call G__law_taken (hr.mono (by first | decide | omega)) (by rfl) D__law_taken.m D__law_taken.F.kp D__law_taken.b .nil pass0 (pa_cons (pv 0) (pa_cons (pe_op op_add (pv 2) pe_int) pa_nil))) pa_nil)) (pg_name (i := 6) sc__law_places.nd rfl (Or.inl rfl))
    (pss_cons (ps_set (i := 7) sc__law_places.nd rfl (Or.inl rfl) (pe_call G__law_taken (hr.mono (by first | decide | omega)) (by rfl) D__law_taken.m D__law_taken.F.kp D__law_taken.b .nil pass0 (pa_cons (pv 0) (pa_cons pe_int pa_nil))))
    (Evl.pss_cut (ps_if (pt_cmpR op_eq (pv 7) pe_int (nomark _))
      (pss_one (ps_set (i := 4) sc__law_places.nd rfl (Or.inl rfl) (pe_call G__law_taken (hr.mono (by first | decide | omega)) (by rfl) D__law_taken.m D__law_taken.F.kp D__law_taken.b .nil pass0 (pa_cons (pv 0) (pa_cons (pv 1) pa_nil)))))
      (pss_nil))
    (Evl.pss_cut (ps_if (pt_cmpR op_eq (pv 7) pe_int (nomark _))
      (pss_one (ps_set (i := 5) sc__law_places.nd rfl (Or.inl rfl) (pe_op op_sub (pe_call G__law_taken (hr.mono (by first | decide | omega)) (by rfl) D__law_taken.m D__law_taken.F.kp D__law_taken.b .nil pass0 (pa_cons (pv 0) (pa_cons pe_int pa_nil))) pe_int)))
      (pss_nil))
    (Evl.pss_cut (ps_if (PW.pt (pw_and (pt_cmpR op_eq (pv 7) pe_int (nomark _)) (pw_and1 (pt_cmpR (op_neD hr.units) (pv 3) (pe_lst pa_nil) (nomark _)))))
      (pss_one (ps_set (i := 4) sc__law_places.nd rfl (Or.inl rfl) (pe_ix ix_list (pv 3) (pe_call G__law_taken (hr.mono (by first | decide | omega)) (by rfl) D__law_taken.m D__law_taken.F.kp D__law_taken.b .nil pass0 (pa_cons (pv 0) (pa_cons (pe_callB call_len_seq (by rfl) T.n_len (by decide +kernel) (pa_cons (pv 3) pa_nil)) pa_nil))) (fun _ _ => rfl))))
      (pss_nil))
    (pss_cons (ps_expr (pe_bm PySem.F.plainAttrs_list PySem.F.slot_list_append PySem.F.type_list_append mt_append (pv 3) (pa_cons (pv 4) pa_nil)))
    (pss_one (ps_set (i := 4) sc__law_places.nd rfl (Or.inl rfl) (pe_op op_mod (pe_op op_add (pv 4) (pv 5)) (pv 1))))))))))
  (pss_one (ps_ret (pv 3))))))), ?_⟩
  and_intros
  intro D nD
  have hDr : D ≠ r := hR.nr nD
  and_intros
  refine ⟨r, m, rfl, hR.same (same_upd nD), hm, fun here H1 h0 h1 s1 hR1 => ?_⟩
  and_intros
  refine ⟨r, 7, rfl, hR1, by decide, fun far H2 f0 f1 s2 hR2 => ?_⟩
  and_intros
  refine ⟨r, _, rfl, hR2, by omega, fun n H3 n0 n1 s3 hR3 => ?_⟩
  and_intros
  have e3 : H3 D = some (.lst []) := s3 _ _ hDr (s2 _ _ hDr (s1 _ _ hDr upd_same))
  have sA : SameX r H H3 := (((SameX.of (same_upd nD)).trans s1).trans s2).trans s3
  refine for_range (lo := 0) (n := n.toNat) (fun i σ H' => ∃ y6 y7 here far ns, σ = [some (.ref r), some (.int m), some (.int (c : Int)), some (.ref D), some (.int here), some (.int far), y6, y7] ∧ 0 ≤ here ∧ here < m ∧
    H' D = some (.lst (ns.map V.int)) ∧ ns.length = i ∧ (∀ n ∈ ns, 0 ≤ n ∧ n < m) ∧ Row K H' r ∧ SameX r H H')
    ⟨none, none, here, far - 3, [], rfl, h0, h1, e3, rfl, fun _ h => (nomatch h), hR3, sA⟩ (fun i σ H' hi h => ?_) (fun σ H' h => ?_)
  · obtain ⟨y6, y7, here, far, ns, rfl, h0, h1, eD, hl, hns, hR', sX⟩ := h
    and_intros
    refine ⟨r, 8, rfl, hR', by decide, fun way H4 _ _ s4 hR4 => ?_⟩
    have eD4 := s4 _ _ hDr eD
    have sX4 := sX.trans s4
    have J : ∀ (z : Int), ∃ _ : Unit, True := fun _ => ⟨(), True.intro⟩
    refine ⟨fun σ' H' => ∃ here far, σ' = [some (.ref r), some (.int m), some (.int (c : Int)), some (.ref D), some (.int here), some (.int far), some (.int (0 + (i : Int))), some (.int way)] ∧ 0 ≤ here ∧ here < m ∧ H' D = some (.lst (ns.map V.int)) ∧ Row K H' r ∧ SameX r H H', ?_, fun σ' H' h => ?_⟩
    · and_intros
      refine ite2 (fun c => ?_) (fun c => ?_)
      · and_intros
        refine ⟨r, m, rfl, hR4, hm, fun h' H5 a0 a1 s5 hR5 => ?_⟩
        and_intros
        exact ⟨h', far, rfl, a0, a1, s5 _ _ hDr eD4, hR5, sX4.trans s5⟩
      · and_intros
        exact ⟨here, far, rfl, h0, h1, eD4, hR4, sX4⟩
    clear h0 h1 hR4 eD4 sX4
    obtain ⟨here, far, rfl, h0, h1, eD4, hR4, sX4⟩ := h
    refine ⟨fun σ' H' => ∃ here far, σ' = [some (.ref r), some (.int m), some (.int (c : Int)), some (.ref D), some (.int here), some (.int far), some (.int (0 + (i : Int))), some (.int way)] ∧ 0 ≤ here ∧ here < m ∧ H' D = some (.lst (ns.map V.int)) ∧ Row K H' r ∧ SameX r H H', ?_, fun σ' H' h => ?_⟩
    · and_intros
      refine ite2 (fun c => ?_) (fun c => ?_)
      · and_intros
        refine ⟨r, 7, rfl, hR4, by decide, fun h' H5 a0 a1 s5 hR5 => ?_⟩
        and_intros
        exact ⟨here, _, rfl, h0, h1, s5 _ _ hDr eD4, hR5, sX4.trans s5⟩
      · and_intros
        exact ⟨here, far, rfl, h0, h1, eD4, hR4, sX4⟩
    clear h0 h1 hR4 eD4 sX4
    obtain ⟨here, far, rfl, h0, h1, eD4, hR4, sX4⟩ := h
    refine ⟨fun σ' H' => ∃ here far, σ' = [some (.ref r), some (.int m), some (.int (c : Int)), some (.ref D), some (.int here), some (.int far), some (.int (0 + (i : Int))), some (.int way)] ∧ 0 ≤ here ∧ here < m ∧ H' D = some (.lst (ns.map V.int)) ∧ Row K H' r ∧ SameX r H H', ?_, fun σ' H' h => ?_⟩
    · and_intros
      refine ite2 (fun c5 => ?_) (fun c5 => ?_)
      · and_intros
        intro l nl
        have eD5 := same_upd (o := .lst []) nl _ _ eD4
        refine ⟨.list (ns.map .int), .list (([] : List Int).map .int), dp_ints (sql eD5), dp_ints (sql upd_same), lay_ints ns, lay_ints [], ?_⟩
        rw [eqv_ints]
        have sX5 : SameX r H (upd H' l (.lst [])) := sX4.trans (SameX.of (same_upd nl))
        have hR5 := hR4.same (same_upd (o := .lst []) nl)
        generalize upd H' l (.lst []) = H5 at eD5 sX5 hR5 ⊢
        by_cases c0 : ns = []
        · refine ⟨_, rfl, ?_⟩
          rw [decide_eq_true c0]
          refine iteB0 (b := !true) rfl ?_
          and_intros
          exact ⟨here, far, rfl, h0, h1, eD5, hR5, sX5⟩
        · refine ⟨_, rfl, ?_⟩
          rw [decide_eq_false c0]
          refine iteB (b := !false) rfl ?_
          have lp : 0 < ns.length := List.length_pos_iff.mpr c0
          and_intros
          refine ⟨r, _, rfl, hR5, by rw [List.length_map]; omega, fun x H6 a0 a1 s6 hR6 => ?_⟩
          rw [List.length_map] at a1
          have eD6 := s6 _ _ hDr eD5
          obtain ⟨y, hx, hy⟩ := atI_ints a0 a1
          refine ⟨_, _, _, _, rfl, rfl, sql eD6, hx, ?_⟩
          have hb := hns _ (List.mem_of_getElem? hy)
          and_intros
          exact ⟨_, far, rfl, hb.1, hb.2, eD6, hR6, sX5.trans s6⟩
      · and_intros
        exact ⟨here, far, rfl, h0, h1, eD4, hR4, sX4⟩
    clear h0 h1 hR4 eD4 sX4
    obtain ⟨here, far, rfl, h0, h1, eD4, hR4, sX4⟩ := h
    and_intros
    refine ⟨.inl ⟨rfl, _, sql eD4⟩, _, rfl, _, _, _, rfl, rfl, eD4, by simp only [List.length_map]; exact szl (by omega), ?_⟩
    and_intros
    refine ⟨_, _, (here + far) % m, far, ns ++ [here], rfl, Int.emod_nonneg _ (by omega), Int.emod_lt_of_pos _ hm, by rw [upd_same, List.map_append]; rfl, by rw [List.length_append, hl]; rfl, fun n hn => ?_, hR4.upd ⟨_, eD4⟩ hDr, samex_mut sX4 nD⟩
    rcases List.mem_append.mp hn with hn | hn
    · exact hns n hn
    · rw [List.mem_singleton.mp hn]
      exact ⟨h0, h1⟩
  · obtain ⟨y6, y7, here, far, ns, rfl, h0, h1, eD, hl, hns, hR', sX⟩ := h
    and_intros
    exact q D ns H' nD hDr sX hR' eD (by omega) hns
end
end St

namespace St
open PySem PySem.Spec PyProof.Rows L2
/-! ### the stepping guesser guesses as the law does that looks back -/
theorem difs_snoc (init : List Int) (x p : Int) : difs (init ++ [x] ++ [p]) = difs (init ++ [x]) ++ [p - x] := by
  have len1 : (init ++ [x] ++ [p]).length - 1 = init.length + 1 := by simp
  have len2 : (init ++ [x]).length - 1 = init.length := by simp
  unfold difs
  rw [len1, len2, List.range_succ, List.map_append]
  congr 1
  · refine List.map_congr_left fun i hi => ?_
    have hi := List.mem_range.mp hi
    unfold dif
    rw [List.getD_eq_getElem?_getD, List.getD_eq_getElem?_getD, List.getD_eq_getElem?_getD, List.getD_eq_getElem?_getD]
    rw [List.getElem?_append_left (l₁ := init ++ [x]) (by simp; omega), List.getElem?_append_left (l₁ := init ++ [x]) (i := i) (by simp; omega)]
  · unfold dif
    simp
def lead : List Int → Int
  | [] => 0
  | [_] => 1
  | x :: y :: r => if x = y then lead (y :: r) + 1 else 1
theorem lead_pos : ∀ (x : Int) (r : List Int), 1 ≤ lead (x :: r)
  | _, [] => Int.le_refl _
  | x, y :: r => by
    have := lead_pos y r
    unfold lead
    split <;> omega
theorem lead_iff : ∀ (r : List Int) (x : Int) (n : Nat), 1 ≤ n → (((n : Int) ≤ lead (x :: r)) ↔ (x :: r).take n = List.replicate n x)
  | [], x, n, hn => by
    obtain ⟨k, rfl⟩ : ∃ k, n = k + 1 := ⟨n - 1, by omega⟩
    rw [List.take_succ_cons, List.take_nil, List.replicate_succ]
    show ((k + 1 : Nat) : Int) ≤ 1 ↔ _
    cases k with
    | zero => simp
    | succ k => simp [List.replicate_succ]; omega
  | y :: r, x, n, hn => by
    obtain ⟨k, rfl⟩ : ∃ k, n = k + 1 := ⟨n - 1, by omega⟩
    rw [List.take_succ_cons, List.replicate_succ, List.cons.injEq]
    cases k with
    | zero =>
      have := lead_pos x (y :: r)
      simp
      exact this
    | succ k =>
      have ih := lead_iff r y (k + 1) (by omega)
      unfold lead
      by_cases c : x = y
      · subst c
        rw [if_pos rfl, ← ih]
        constructor
        · intro h; exact ⟨rfl, by omega⟩
        · intro h; have := h.2; omega
      · rw [if_neg c]
        constructor
        · intro h; omega
        · intro h
          have z := h.2
          rw [List.take_succ_cons, List.replicate_succ, List.cons.injEq] at z
          exact absurd z.1.symm c
theorem stride_eq (n p : Int) (h1 : 1 ≤ n) (x : Int) (d : List Int) : strideG n p ((d ++ [x]).drop ((d ++ [x]).length - n.toNat)) = if x ≠ 0 ∧ n ≤ lead (x :: d.reverse) then [p + x] else [] := by
  obtain ⟨m, rfl⟩ : ∃ m : Nat, n = (m : Int) := ⟨n.toNat, by omega⟩
  have h1' : 1 ≤ m := by omega
  rw [Int.toNat_natCast]
  have e : (d ++ [x]).drop ((d ++ [x]).length - m) = ((x :: d.reverse).take m).reverse := by
    have : x :: d.reverse = (d ++ [x]).reverse := by simp
    rw [this, List.take_reverse, List.reverse_reverse]
  rw [e]
  have key := lead_iff d.reverse x m h1'
  by_cases c : (m : Int) ≤ lead (x :: d.reverse)
  · rw [key.mp c, List.reverse_replicate]
    have hd : (List.replicate m x).headD 0 = x := by
      obtain ⟨k, rfl⟩ : ∃ k, m = k + 1 := ⟨m - 1, by omega⟩
      rfl
    unfold strideG
    rw [hd, List.length_replicate]
    by_cases c0 : x = 0
    · rw [if_pos (.inr (.inr c0)), if_neg (fun z => z.1 c0)]
    · rw [if_neg (by rintro (z | z | z); · omega
                     · exact z rfl
                     · exact c0 z), if_pos ⟨c0, c⟩]
  · rw [if_neg (fun z => c z.2)]
    generalize hs : ((x :: d.reverse).take m).reverse = s
    refine if_pos ?_
    by_cases cl : ((s.length : Nat) : Int) < m
    · exact .inl cl
    · refine .inr (.inl fun z => c (key.mpr ?_))
      have ls : s.length = m := by
        have : s.length ≤ m := by rw [← hs, List.length_reverse, List.length_take]; exact Nat.min_le_left _ _
        omega
      rw [ls] at z
      generalize s.headD 0 = y at z
      rw [z] at hs
      have hs' : (x :: d.reverse).take m = List.replicate m y := by rw [← List.reverse_reverse ((x :: d.reverse).take m), hs, List.reverse_replicate]
      obtain ⟨k, rfl⟩ : ∃ k, m = k + 1 := ⟨m - 1, by omega⟩
      have hy : x = y := by
        rw [List.take_succ_cons, List.replicate_succ, List.cons.injEq] at hs'
        exact hs'.1
      rw [hs', hy]
theorem stG_str (n : Int) : ∀ (r : List Int) (x : Int), stG (.leaf "stride" [n]) ((r.reverse) ++ [x]) = .str (some x) ((difs (r.reverse ++ [x])).reverse.headD 0) (lead (difs (r.reverse ++ [x])).reverse)
  | [], x => by
    rw [stG_snoc]
    rfl
  | y :: r, x => by
    have ih := stG_str n r y
    rw [List.reverse_cons, stG_snoc, ih, difs_snoc, List.reverse_append]
    generalize (difs (r.reverse ++ [y])).reverse = d
    show (strStep n (some y) (d.headD 0) (lead d) x).1 = .str (some x) (x - y) (lead ((x - y) :: d))
    unfold strStep
    show Sg.str (some x) (x - y) (if x - y = d.headD 0 then lead d + 1 else 1) = _
    congr 1
    cases d with
    | nil =>
      show (if x - y = 0 then (0 : Int) + 1 else 1) = 1
      split <;> rfl
    | cons z d => rfl
theorem step_str (n : Int) (h1 : 1 ≤ n) (init : List Int) (p : Int) : (stepG (.leaf "stride" [n]) (stG (.leaf "stride" [n]) init) p).2 = lawG (init ++ [p]) p (.leaf "stride" [n]) := by
  show _ = strideG n p ((difs (init ++ [p])).drop ((difs (init ++ [p])).length - n.toNat))
  obtain ⟨r, rfl⟩ : ∃ r : List Int, init = r.reverse := ⟨init.reverse, by rw [List.reverse_reverse]⟩
  cases r with
  | nil =>
    show ([] : List Int) = strideG n p (([] : List Int).drop _)
    rw [List.drop_nil]
    exact (if_pos (.inl (by show (0 : Int) < n; omega))).symm
  | cons y r =>
    rw [List.reverse_cons, stG_str, difs_snoc]
    generalize difs (r.reverse ++ [y]) = d
    rw [stride_eq n p h1]
    show (strStep n (some y) (d.reverse.headD 0) (lead d.reverse) p).2 = _
    have e : (if p - y = d.reverse.headD 0 then lead d.reverse + 1 else 1) = lead ((p - y) :: d.reverse) := by
      generalize d.reverse = d
      cases d with
      | nil =>
        show (if p - y = 0 then (0 : Int) + 1 else 1) = 1
        split <;> rfl
      | cons z d => rfl
    show (if p - y ≠ 0 ∧ n ≤ (if p - y = d.reverse.headD 0 then lead d.reverse + 1 else 1) then [p + (p - y)] else []) = _
    rw [e]
/-! ### pairs -/
def ded : List Int → List Int
  | [] => []
  | a :: r => a :: (ded r).filter fun e => decide (e ≠ a)
def dd (acc : List Int) (l : List Int) : List Int := l.foldl (fun acc a => if a ∈ acc then acc else acc ++ [a]) acc
theorem dd_ded : ∀ (l acc : List Int), dd acc l = acc ++ (ded l).filter fun e => decide (e ∉ acc)
  | [], acc => by simp [dd, ded]
  | a :: r, acc => by
    show dd (if a ∈ acc then acc else acc ++ [a]) r = _
    unfold ded
    rw [List.filter_cons]
    by_cases c : a ∈ acc
    · rw [if_pos c, if_neg (by simp [c]), dd_ded r acc, List.filter_filter]
      congr 1
      refine List.filter_congr fun e _ => ?_
      by_cases d : e = a
      · subst d; simp [c]
      · simp [d]
    · rw [if_neg c, if_pos (by simp [c]), dd_ded r (acc ++ [a]), List.filter_filter, List.append_assoc]
      congr 1
      show _ = a :: _
      rw [List.singleton_append]
      congr 1
      refine List.filter_congr fun e _ => ?_
      by_cases d : e = a
      · subst d; simp
      · simp [d]
theorem ded_nodup : ∀ l : List Int, (ded l).Nodup
  | [] => List.nodup_nil
  | a :: r => by
    unfold ded
    rw [List.nodup_cons]
    refine ⟨fun h => ?_, (ded_nodup r).filter _⟩
    have := (List.mem_filter.mp h).2
    simp at this
/-- what came behind y, the latest first -/
def sc_ (ps : List Int) (y : Int) : Nat → List Int
  | 0 => []
  | i + 1 => sc_ ps y i ++ if ps.getD (ps.length - 1 - i - 1) 0 = y then [ps.getD (ps.length - 1 - i) 0] else []
theorem fnd_dd (ps : List Int) (y : Int) : ∀ i, fnd ps y i = dd [] (sc_ ps y i)
  | 0 => rfl
  | i + 1 => by
    unfold fnd sc_
    rw [fnd_dd ps y i]
    unfold dd
    rw [List.foldl_append]
    generalize List.foldl _ _ (sc_ ps y i) = acc
    by_cases c : ps.getD (ps.length - 1 - i - 1) 0 = y
    · rw [if_pos c]
      show _ = if _ ∈ acc then acc else acc ++ [_]
      by_cases d : ps.getD (ps.length - 1 - i) 0 ∈ acc
      · rw [if_pos d, if_neg (fun z => z.2 d)]
      · rw [if_neg d, if_pos ⟨c, d⟩]
    · rw [if_neg c, if_neg (fun z => c z.1)]
      rfl
theorem sc_snoc (init : List Int) (x p y : Int) : ∀ i, i ≤ init.length → sc_ (init ++ [x] ++ [p]) y (i + 1) = (if x = y then [p] else []) ++ sc_ (init ++ [x]) y i
  | 0, _ => by
    have e1 : (init ++ [x] ++ [p]).getD ((init ++ [x] ++ [p]).length - 1 - 0 - 1) 0 = x := by
      have : (init ++ [x] ++ [p]).length - 1 - 0 - 1 = init.length := by simp
      rw [this, List.getD_eq_getElem?_getD, List.getElem?_append_left (by simp), List.getElem?_append_right (Nat.le_refl _)]
      simp
    have e2 : (init ++ [x] ++ [p]).getD ((init ++ [x] ++ [p]).length - 1 - 0) 0 = p := by
      have : (init ++ [x] ++ [p]).length - 1 - 0 = (init ++ [x]).length := by simp
      rw [this, List.getD_eq_getElem?_getD, List.getElem?_append_right (Nat.le_refl _)]
      simp
    show [] ++ (if _ = y then [_] else []) = _ ++ []
    rw [e1, e2, List.append_nil, List.nil_append]
  | i + 1, hi => by
    have ih := sc_snoc init x p y i (by omega)
    have e : ∀ j, j ≤ init.length → (init ++ [x] ++ [p]).getD j 0 = (init ++ [x]).getD j 0 := fun j hj => by
      rw [List.getD_eq_getElem?_getD, List.getD_eq_getElem?_getD, List.getElem?_append_left (by simp; omega)]
    have l1 : (init ++ [x] ++ [p]).length - 1 - (i + 1) = (init ++ [x]).length - 1 - i := by
      simp only [List.length_append, List.length_cons, List.length_nil]
      omega
    rw [sc_, ih, List.append_assoc]
    congr 1
    rw [l1, e _ (by simp; omega), e _ (by simp)]
    rfl
/-- all that came behind y -/
def fol (ps : List Int) (y : Int) : List Int := fnd ps y (ps.length - 1)
theorem fol_ded (ps : List Int) (y : Int) : fol ps y = ded (sc_ ps y (ps.length - 1)) := by
  unfold fol
  rw [fnd_dd, dd_ded]
  simp
theorem fol_nodup (ps : List Int) (y : Int) : (fol ps y).Nodup := by
  rw [fol_ded]
  exact ded_nodup _
theorem fol_snoc (init : List Int) (x p y : Int) : fol (init ++ [x] ++ [p]) y = if x = y then p :: (fol (init ++ [x]) y).filter (fun e => decide (e ≠ p)) else fol (init ++ [x]) y := by
  rw [fol_ded, fol_ded]
  have l1 : (init ++ [x] ++ [p]).length - 1 = init.length + 1 := by simp
  have l2 : (init ++ [x]).length - 1 = init.length := by simp
  rw [l1, l2, sc_snoc init x p y _ (Nat.le_refl _)]
  by_cases c : x = y
  · rw [if_pos c, if_pos c]
    rfl
  · rw [if_neg c, if_neg c]
    rfl
theorem take_fil {p : Int} : ∀ {l : List Int} {m : Nat}, l.Nodup → (((l.take (m + 1)).filter fun e => decide (e ≠ p)).take m) = (l.filter fun e => decide (e ≠ p)).take m
  | [], m, _ => by simp
  | a :: r, m, h => by
    rw [List.nodup_cons] at h
    rw [List.take_succ_cons, List.filter_cons, List.filter_cons]
    by_cases c : a = p
    · subst c
      have f : r.filter (fun e => decide (e ≠ a)) = r := List.filter_eq_self.mpr fun e he => by
        simp
        rintro rfl
        exact h.1 he
      have g : (r.take m).filter (fun e => decide (e ≠ a)) = r.take m := List.filter_eq_self.mpr fun e he => by
        simp
        rintro rfl
        exact h.1 (List.mem_of_mem_take he)
      rw [if_neg (by simp), if_neg (by simp), f, g, List.take_take, Nat.min_self]
    · rw [if_pos (by simp [c]), if_pos (by simp [c])]
      cases m with
      | zero => rfl
      | succ m => rw [List.take_succ_cons, List.take_succ_cons, take_fil h.2]
theorem lookK_ins (x : Int) (v : List Int) (y : Int) : ∀ kn : List (Int × List Int), lookK (insK x v kn) y = if y = x then v else lookK kn y
  | [] => by
    unfold lookK insK
    by_cases c : y = x
    · subst c; simp [List.lookup]
    · have : (y == x) = false := beq_eq_false_iff_ne.mpr c
      simp [List.lookup, this, c]
  | (k', v') :: r => by
    have ih := lookK_ins x v y r
    unfold insK
    by_cases c1 : x < k'
    · rw [if_pos c1]
      unfold lookK
      by_cases c : y = x
      · subst c; simp [List.lookup]
      · have : (y == x) = false := beq_eq_false_iff_ne.mpr c
        rw [if_neg c, List.lookup_cons, this]
    · rw [if_neg c1]
      by_cases c2 : x = k'
      · rw [if_pos c2]
        subst c2
        unfold lookK
        by_cases c : y = x
        · subst c; simp [List.lookup]
        · have : (y == x) = false := beq_eq_false_iff_ne.mpr c
          rw [if_neg c, List.lookup_cons, this, List.lookup_cons, this]
      · rw [if_neg c2]
        unfold lookK at ih ⊢
        by_cases c : y = k'
        · subst c
          rw [if_neg (Ne.symm c2)]
          simp [List.lookup]
        · have : (y == k') = false := beq_eq_false_iff_ne.mpr c
          rw [List.lookup_cons, this, List.lookup_cons, this]
          exact ih
theorem stG_prs (m : Nat) : ∀ (r : List Int) (x : Int), ∃ kn, stG (.leaf "pairs" [((m + 1 : Nat) : Int)]) (r.reverse ++ [x]) = .prs (some x) kn ∧ ∀ y, lookK kn y = (fol (r.reverse ++ [x]) y).take (m + 1)
  | [], x => ⟨[], by rw [stG_snoc]; rfl, fun y => rfl⟩
  | z :: r, x => by
    obtain ⟨kn, e, h⟩ := stG_prs m r z
    refine ⟨knStep ((m + 1 : Nat) : Int) (some z) kn x, by rw [List.reverse_cons, stG_snoc, e]; rfl, fun y => ?_⟩
    unfold knStep
    rw [lookK_ins, List.reverse_cons, fol_snoc]
    have em : (((m + 1 : Nat) : Int) - 1).toNat = m := by omega
    by_cases c : y = z
    · subst c
      rw [if_pos rfl, if_pos rfl, List.take_succ_cons, h, em, take_fil (fol_nodup _ _)]
    · rw [if_neg c, if_neg (Ne.symm c), h]
theorem step_prs (n : Int) (h1 : 1 ≤ n) (init : List Int) (p : Int) : (stepG (.leaf "pairs" [n]) (stG (.leaf "pairs" [n]) init) p).2 = lawG (init ++ [p]) p (.leaf "pairs" [n]) := by
  show _ = (fol (init ++ [p]) p).take n.toNat
  obtain ⟨m, rfl⟩ : ∃ m : Nat, n = ((m + 1 : Nat) : Int) := ⟨n.toNat - 1, by omega⟩
  obtain ⟨r, rfl⟩ : ∃ r : List Int, init = r.reverse := ⟨init.reverse, by rw [List.reverse_reverse]⟩
  obtain ⟨kn, e, h⟩ := stG_prs m r p
  rw [stG_snoc] at e
  rw [Int.toNat_natCast, ← h]
  generalize stG (.leaf "pairs" [((m + 1 : Nat) : Int)]) r.reverse = s at e
  cases s with
  | prs l k =>
    have e' : Sg.prs (some p) (knStep ((m + 1 : Nat) : Int) l k p) = .prs (some p) kn := e
    injection e' with _ e'
    show lookK (knStep ((m + 1 : Nat) : Int) l k p) p = _
    rw [e']
  | str l st t =>
    have e' : (strStep ((m + 1 : Nat) : Int) l st t p).1 = .prs (some p) kn := e
    unfold strStep at e'
    cases l <;> cases e'
  | both a b =>
    have e' : Sg.both a b = .prs (some p) kn := e
    cases e'
theorem stG_both (a b : G) : ∀ (ps : List Int) (s t : Sg), ps.foldl (fun s p => (stepG (.both a b) s p).1) (.both s t) = .both (ps.foldl (fun s p => (stepG a s p).1) s) (ps.foldl (fun s p => (stepG b s p).1) t)
  | [], _, _ => rfl
  | p :: r, s, t => stG_both a b r (stepG a s p).1 (stepG b t p).1
theorem step_law : ∀ {k : Nat} {g : G}, good k g = true → ∀ (init : List Int) (p : Int), (stepG g (stG g init) p).2 = lawG (init ++ [p]) p g
  | _, .nil, h => by simp [good] at h
  | _, .b1 _, h => by simp [good] at h
  | _, .b3 _ _ _, h => by simp [good] at h
  | 0, .both _ _, h => by simp [good] at h
  | k + 1, .both a b, h => fun init p => by
    have h' : (good k a && good k b) = true := h
    rw [Bool.and_eq_true] at h'
    have ha := step_law h'.1 init p
    have hb := step_law h'.2 init p
    have e : stG (.both a b) init = .both (stG a init) (stG b init) := stG_both a b init _ _
    rw [e]
    show (stepG a (stG a init) p).2 ++ (stepG b (stG b init) p).2.filter _ = lawG (init ++ [p]) p a ++ (lawG (init ++ [p]) p b).filter _
    rw [ha, hb]
  | k, .leaf z ns, h => fun init p => by
    rcases good_leaf h with ⟨e, e2⟩ | ⟨n, e, hn, e2⟩
    · subst e
      rfl
    · subst e
      rcases e2 with rfl | rfl | rfl
      · have h3 : n = 1 ∨ n = 2 ∨ n = 3 := by omega
        show (List.range (hd0 [n]).toNat).map (fun (k : Nat) => p + (k : Int) + 1) = [p + 1, p + 2, p + 3].take (hd0 [n]).toNat
        rcases h3 with rfl | rfl | rfl
        · show [p + ((0 : Nat) : Int) + 1] = [p + 1]
          simp
        · show [p + ((0 : Nat) : Int) + 1, p + ((1 : Nat) : Int) + 1] = [p + 1, p + 2]
          congr 1
          · omega
          · congr 1; omega
        · show [p + ((0 : Nat) : Int) + 1, p + ((1 : Nat) : Int) + 1, p + ((2 : Nat) : Int) + 1] = [p + 1, p + 2, p + 3]
          congr 1
          · omega
          · congr 1
            · omega
            · congr 1; omega
      · exact step_str n (by omega) init p
      · exact step_prs n (by omega) init p
end St

namespace St
open PySem PySem.Spec PyProof.Rows L2
abbrev s_law : Stmt := topS 20
abbrev N_law : List Str := ["_law_script", "_law_row", "_law_turn", "_law_guesser_here", "_law_most", "_law_places_here", "_law_due", "_law_handed", "_law_again", "_law_found", "_law_some", "_law_k"]
abbrev p_law : List Str := ["_law_script"]
theorem sc_law : FnScope N_law p_law (defScope s_law) := ⟨rfl, rfl, rfl, by decide +kernel, rfl, by decide +kernel, by decide +kernel⟩
def spLaw (K : PySem.W.Frag) : Sp := fun vs H Q _ => ∃ (a : Addr) (ns : List Int), vs = [.ref a] ∧ Sc K H a (ns.map V.int) ∧ ∀ H', Q (.bl true) H'
def dLL (ls : List (List Int)) : PyData := .list (ls.map fun e => .list (e.map PyData.int))
/-- a list of lists of numbers -/
def LL (H : Hp) (D : Addr) (as : List Addr) (ls : List (List Int)) : Prop := H D = some (.lst (as.map V.ref)) ∧ Paired (fun (a : Addr) (e : List Int) => a ≠ D ∧ H a = some (.lst (e.map V.int)) ∧ e.length ≤ 24) as ls
theorem LL.same {H H' : Hp} {D : Addr} {as : List Addr} {ls : List (List Int)} (h : LL H D as ls) (e : Same H H') : LL H' D as ls := ⟨e _ _ h.1, Paired.mapP h.2 fun _ _ z => ⟨z.1, e _ _ z.2.1, z.2.2⟩⟩
theorem dp_LL {K : PySem.W.Frag} {H : Hp} {D : Addr} {as : List Addr} {ls : List (List Int)} (h : LL H D as ls) : Dp K H (.ref D) (dLL ls) := by
  refine .lst (sql h.1) ?_
  have : ∀ {as : List Addr} {ls : List (List Int)}, Paired (fun (a : Addr) (e : List Int) => a ≠ D ∧ H a = some (.lst (e.map V.int)) ∧ e.length ≤ 24) as ls → DpAll K H (as.map V.ref) (ls.map fun e => .list (e.map PyData.int)) := by
    intro as ls p
    induction p with
    | nil => exact .nil
    | cons a _ ih => exact .cons (dp_ints (sql a.2.1)) ih
  exact this h.2
theorem dep_LL {ls : List (List Int)} (h : ls.length ≤ 1000) (h2 : ∀ e ∈ ls, e.length ≤ 24) : dep 3 (dLL ls) := by
  refine ⟨by rw [List.length_map]; omega, fun d hd => ?_⟩
  obtain ⟨e, he, rfl⟩ := List.mem_map.mp hd
  refine ⟨by rw [List.length_map]; have := h2 e he; omega, fun d hd => ?_⟩
  obtain ⟨i, _, rfl⟩ := List.mem_map.mp hd
  exact True.intro
section
variable {P : Program} {w : World} {K : PySem.W.Frag} {mg : Str → Option Value} {base : Heap} {f dS dM f1 f2 f3 f4 f5 f6 f7 f8 f9 f10 f11 f12 : Addr} {fd fd1 fd2 fd3 fd4 fd5 fd6 fd7 fd8 fd9 fd10 fd11 fd12 : FuncData}
theorem ok_law (T : Nms mg) (B : Tab K w mg dS dM) (D_is_guesser : Df K mg "is_guesser" s_is_guesser p_is_guesser f1 fd1) (D_need_guesser : Df K mg "need_guesser" s_need_guesser p_need_guesser f2 fd2) (D_first_state : Df K mg "first_state" s_first_state p_first_state f3 fd3)
    (D_strided : Df K mg "strided" s_strided p_strided f4 fd4) (D_paired : Df K mg "paired" s_paired p_paired f5 fd5) (D_stepped : Df K mg "stepped" s_stepped p_stepped f6 fd6) (D_guesses : Df K mg "guesses" s_guesses p_guesses f7 fd7) (D__law_taken : Df K mg "_law_taken" s__law_taken p__law_taken f8 fd8)
    (D__law_alike : Df K mg "_law_alike" s__law_alike p__law_alike f9 fd9) (D__law_guesser : Df K mg "_law_guesser" s__law_guesser p__law_guesser f10 fd10) (D__law_places : Df K mg "_law_places" s__law_places p__law_places f11 fd11) (D__law_guessed : Df K mg "_law_guessed" s__law_guessed p__law_guessed f12 fd12)
    (F : Fun K "law" "law" s_law f fd) : FnOk P w K mg base CX0 8 f fd p_law (spLaw K) := by
  have G_guesses : FnOk P w K mg base CX0 7 f7 fd7 p_guesses (spGuesses K) := ok_guesses T B D_is_guesser D_need_guesser D_first_state D_strided D_paired D_stepped D_guesses.F
  have G__law_taken : FnOk P w K mg base CX0 1 f8 fd8 p__law_taken (spTaken K) := ok__law_taken D__law_taken.F T
  have G__law_guesser : FnOk P w K mg base CX0 5 f10 fd10 p__law_guesser (spGuesser K 4) := ok__law_guesser T D__law_taken D__law_guesser 4
  have G__law_places : FnOk P w K mg base CX0 2 f11 fd11 p__law_places (spPlaces K) := ok__law_places T D__law_taken D__law_places.F
  have G__law_guessed : FnOk P w K mg base CX0 4 f12 fd12 p__law_guessed (spGuessed K 4) := ok__law_guessed T D__law_guessed 4
  have G__law_alike : FnOk P w K mg base CX0 3 f9 fd9 p__law_alike (spAlike K 3) := ok__law_alike T D__law_alike 3
  refine F.ok sc_law (fun vs H Q E h => ?_) (fun cdv A outer s H vs Q E hr h => ?_)
  · obtain ⟨a, ns, rfl, _⟩ := h
    rfl
  obtain ⟨a, ns, rfl, hS, q⟩ := h
  refine ⟨_, (pss_cons (ps_set (i := 1) sc_law.nd rfl (Or.inl rfl) (pe_lst (pa_cons (pv 0) (pa_cons pe_int (pa_cons pe_int pa_nil)))))
  (pss_cons (ps_for PassesOwn.never rfl (pi_range1 rfl T.n_range (pa_cons pe_int pa_nil)) (pg_name (i := 2) sc_law.nd rfl (Or.inl rfl))
    (pss_cons (ps_set (i := 3) sc_law.nd rfl (Or.inr rfl) (pe_call G__law_guesser (hr.mono (by first | decide | omega)) (by rfl) D__law_guesser.m D__law_guesser.F.kp D__law_guesser.b .nil pass0 (pa_cons (pv 1) (pa_cons pe_int pa_nil))))
    (pss_cons (ps_set (i := 4) sc_law.nd rfl (Or.inl rfl) (pe_ix ix_list (pe_lst (pa_cons pe_int (pa_cons pe_int pa_nil))) (pe_op op_fdiv (pe_call G__law_taken (hr.mono (by first | decide | omega)) (by rfl) D__law_taken.m D__law_taken.F.kp D__law_taken.b .nil pass0 (pa_cons (pv 1) (pa_cons pe_int pa_nil))) pe_int) (fun _ _ => rfl)))
    (pss_cons (ps_set (i := 5) sc_law.nd rfl (Or.inr rfl) (pe_call G__law_places (hr.mono (by first | decide | omega)) (by rfl) D__law_places.m D__law_places.F.kp D__law_places.b .nil pass0 (pa_cons (pv 1) (pa_cons (pe_ix ix_list (pe_lst (pa_cons pe_int (pa_cons pe_int (pa_cons (pe_op op_pow pe_int pe_int) pa_nil)))) (pe_call G__law_taken (hr.mono (by first | decide | omega)) (by rfl) D__law_taken.m D__law_taken.F.kp D__law_taken.b .nil pass0 (pa_cons (pv 1) (pa_cons pe_int pa_nil))) (fun _ _ => rfl)) (pa_cons (pv 4) pa_nil)))))
    (pss_cons (ps_setLc (i := 6) (own := [("_law_k", 11)]) (g := gName 11) rfl sc_law.nd rfl rfl (sw_true rfl rfl rfl (by decide +kernel)) (pi_range1 rfl T.n_range (pa_cons (pe_callB call_len_seq (by rfl) T.n_len (by decide +kernel) (pa_cons (pv 5) pa_nil)) pa_nil)) (blkOk_by (own := [("_law_k", 11)]) (N := N_law) (sc := defScope s_law) (by decide +kernel)) (fun _ _ _ _ _ => pg_name (i := 11) sc_law.nd rfl (Or.inl rfl)) (fun _ _ _ _ _ => pts_nil) (fun _ _ _ _ _ => (pe_call G__law_guessed (hr.mono (by first | decide | omega)) (by rfl) D__law_guessed.m D__law_guessed.F.kp D__law_guessed.b .nil pass0 (pa_cons (pv 3) (pa_cons (pe_slice (sl_listK (K := K)) (pv 5) po_none (po_some (pe_op op_add (pv 11) pe_int))) pa_nil)))))
    (pss_cons (ps_set (i := 7) sc_law.nd rfl (Or.inl rfl) (pe_callTy call_list_of (by rfl) T.n_list (by decide +kernel) (pa_cons (pv 5) pa_nil)))
    (pss_one (ps_for PassesOwn.never rfl (pi_range1 rfl T.n_range (pa_cons pe_int pa_nil)) (pg_name (i := 8) sc_law.nd rfl (Or.inl rfl))
      (pss_cons (ps_set (i := 9) sc_law.nd rfl (Or.inl rfl) (pe_call G_guesses (hr.mono (by first | decide | omega)) (by rfl) D_guesses.m D_guesses.F.kp D_guesses.b .nil pass0 (pa_cons (pv 3) (pa_cons (pv 7) pa_nil))))
      (pss_cons (ps_if (PW.pt (pw_or (pt_not (pt_val (pe_call G__law_alike (hr.mono (by first | decide | omega)) (by rfl) D__law_alike.m D__law_alike.F.kp D__law_alike.b .nil pass0 (pa_cons (pv 9) (pa_cons (pv 6) pa_nil))))) (pw_or1 (pt_cmpR (op_neD hr.units) (pv 7) (pv 5) (nomark _)))))
        (pss_one (ps_ret pe_bl))
        (pss_nil))
      (pss_cons (ps_for PassesOwn.never rfl (pi_list (pv 9)) (pg_name (i := 10) sc_law.nd rfl (Or.inl rfl))
        (pss_one (ps_expr (pe_bm PySem.F.plainAttrs_list PySem.F.slot_list_append PySem.F.type_list_append mt_append (pv 10) (pa_cons pe_int pa_nil)))))
      (pss_one (ps_expr (pe_bm PySem.F.plainAttrs_list PySem.F.slot_list_append PySem.F.type_list_append mt_append (pv 9) (pa_cons (pe_lst pa_nil) pa_nil)))))))))))))))
  (pss_one (ps_ret pe_bl)))), ?_⟩
  and_intros
  intro r nr
  have hR : Row K (upd H r (.lst [.ref a, .int 0, .int 0])) r := ⟨a, ns, 0, 0, upd_same, hS.imm (Imm.same (same_upd nr)), by omega⟩
  generalize upd H r (.lst [.ref a, .int 0, .int 0]) = H1 at hR ⊢
  and_intros
  refine for_range (lo := 0) (n := ((4 : Int)).toNat) (fun i σ H' => ∃ y2 y3 y4 y5 y6 y7 y8 y9 y10 y11, σ = [some (.ref a), some (.ref r), y2, y3, y4, y5, y6, y7, y8, y9, y10, y11] ∧ Row K H' r)
    ⟨none, none, none, none, none, none, none, none, none, none, rfl, hR⟩ (fun i σ H' hi h => ?_) (fun σ H' h => ?_)
  · obtain ⟨y2, y3, y4, y5, y6, y7, y8, y9, y10, y11, rfl, hR⟩ := h
    and_intros
    refine ⟨r, 3, rfl, by omega, hR, fun g v H2 s2 hR2 hG hg => ?_⟩
    and_intros
    intro l3 n3
    and_intros
    have hR3 := hR2.same (same_upd (o := .lst [.int 40, .int 100]) n3)
    have e3 : (upd H2 l3 (.lst [.int 40, .int 100])) l3 = some (.lst [.int 40, .int 100]) := upd_same
    have hG3 := hG.same (same_upd (o := .lst [.int 40, .int 100]) n3)
    have n3r : l3 ≠ r := hR2.nr n3
    generalize upd H2 l3 (.lst [.int 40, .int 100]) = H3 at hR3 e3 hG3 ⊢
    refine ⟨r, 4, rfl, hR3, by decide, fun x H4 x0 x1 s4 hR4 => ?_⟩
    have e4 := s4 _ _ n3r e3
    have hG4 := hG3.sameX s4 hR3.at_
    and_intros
    obtain ⟨c, hc, hx⟩ : ∃ c : Nat, c ≤ 100 ∧ atI [V.int 40, V.int 100] (x / 3) = some (.int (c : Int)) := by
      have : x = 0 ∨ x = 1 ∨ x = 2 ∨ x = 3 := by omega
      rcases this with rfl | rfl | rfl | rfl
      · exact ⟨40, by decide, rfl⟩
      · exact ⟨40, by decide, rfl⟩
      · exact ⟨40, by decide, rfl⟩
      · exact ⟨100, by decide, rfl⟩
    refine ⟨_, _, _, _, rfl, rfl, sql e4, hx, ?_⟩
    and_intros
    intro l5 n5
    and_intros
    have e5 : (upd H4 l5 (.lst [.int 4, .int 12, .int ((10 : Int) ^ ((6 : Int).toNat))])) l5 = some (.lst [.int 4, .int 12, .int ((10 : Int) ^ ((6 : Int).toNat))]) := upd_same
    have hR5 := hR4.same (same_upd (o := .lst [.int 4, .int 12, .int ((10 : Int) ^ ((6 : Int).toNat))]) n5)
    have hG5 := hG4.same (same_upd (o := .lst [.int 4, .int 12, .int ((10 : Int) ^ ((6 : Int).toNat))]) n5)
    have n5r : l5 ≠ r := hR4.nr n5
    generalize upd H4 l5 (.lst [.int 4, .int 12, .int ((10 : Int) ^ ((6 : Int).toNat))]) = H5 at hR5 e5 hG5 ⊢
    refine ⟨r, 3, rfl, hR5, by decide, fun x H6 x0 x1 s6 hR6 => ?_⟩
    have e6 := s6 _ _ n5r e5
    have hG6 := hG5.sameX s6 hR5.at_
    obtain ⟨m, hm, hx⟩ : ∃ m : Int, 0 < m ∧ atI [V.int 4, V.int 12, V.int ((10 : Int) ^ ((6 : Int).toNat))] x = some (.int m) := by
      have : x = 0 ∨ x = 1 ∨ x = 2 := by omega
      rcases this with rfl | rfl | rfl
      · exact ⟨4, by decide, rfl⟩
      · exact ⟨12, by decide, rfl⟩
      · exact ⟨_, by decide, rfl⟩
    refine ⟨_, _, _, _, rfl, rfl, sql e6, hx, ?_⟩
    and_intros
    refine ⟨r, m, c, rfl, hR6, hm, by omega, fun D ps H7 nD nDr s7 hR7 e7 hlen _ => ?_⟩
    have hG7 := hG6.sameX s7 hR6.at_
    refine ⟨_, rfl, _, _, rfl, .inl (sql e7), ?_⟩
    refine ⟨_, rfl, by omega, by rw [List.length_map]; omega, fun U nU => ?_⟩
    rw [show ((((List.map V.int ps).length : Nat) : Int)).toNat = ps.length by rw [List.length_map]; exact Int.toNat_natCast _]
    refine lc_range (lo := 0) (n := ps.length) (fun i H' => ∃ as, Same H7 H' ∧ LL H' U as (allG g ps i)) ⟨[], same_upd nU, upd_same, .nil⟩ (fun i H' hi h => ?_) (fun H' h => ?_)
    · obtain ⟨as, s8, hU⟩ := h
      have hps := s8 _ _ e7
      have hGi := hG7.same s8
      and_intros
      intro L nL
      rw [cut_to (by omega), ← List.map_take]
      have ei : (0 + (i : Int) + 1).toNat = i + 1 := by omega
      rw [ei]
      have et : ps.take (i + 1) = ps.take i ++ [ps[i]] := by rw [List.take_add_one, List.getElem?_eq_getElem hi]; rfl
      refine ⟨v, L, g, ps.take (i + 1), ps[i], 3, rfl, hGi.same (same_upd nL), hg, by omega, by omega, sql upd_same, by rw [et, List.getLast?_append]; rfl, by rw [List.length_take]; omega, fun l H8 nl s9 el => ?_⟩
      have s10 := (same_upd nL).trans s9
      have gd : ps.getD i 0 = ps[i] := by rw [List.getD_eq_getElem?_getD, List.getElem?_eq_getElem hi]; rfl
      have hl : lawG (ps.take (i + 1)) ps[i] g = (stepG g (stG g (ps.take i)) (ps.getD i 0)).2 := by rw [et, gd, step_law hg]
      rw [hl] at el
      have kp := stG_keeps hg ps i (by omega)
      have sz4 := stepG_len (p := ps.getD i 0) hg kp.1 kp.2
      have hU8 := hU.same s10
      have nlU : l ≠ U := (ne_of_none (same_upd (o := .lst ((ps.take (i + 1)).map V.int)) nL _ _ hU.1) nl).symm
      have la : as.length = i := by rw [Paired.length hU.2, allG_len]
      refine ⟨_, hU8.1, by rw [List.length_map]; exact szl (by omega), as ++ [l], same_mut (s8.trans s10) nU, by rw [upd_same, List.map_append]; rfl, ?_⟩
      unfold allG
      refine Paired.snoc (Paired.mapP hU8.2 fun x y z => ⟨z.1, ?_, z.2.2⟩) ⟨nlU, ?_, by omega⟩
      · rw [upd_ne z.1]
        exact z.2.1
      · rw [upd_ne nlU]
        exact el
    · obtain ⟨as, s8, hU⟩ := h
      have hps := s8 _ _ e7
      have hG8 := hG7.same s8
      have hR8 := hR7.same s8
      refine ⟨_, rfl, _, _, rfl, .inl (sql hps), fun W nW => ?_⟩
      have hU9 := hU.same (same_upd (o := .lst (ps.map V.int)) nW)
      have hps9 := same_upd (o := .lst (ps.map V.int)) nW _ _ hps
      have hG9 := hG8.same (same_upd (o := .lst (ps.map V.int)) nW)
      have hR9 := hR8.same (same_upd (o := .lst (ps.map V.int)) nW)
      have hW : (upd H' W (.lst (ps.map V.int))) W = some (.lst (ps.map V.int)) := upd_same
      generalize upd H' W (.lst (ps.map V.int)) = H9 at hU9 hps9 hG9 hR9 hW ⊢
      and_intros
      refine for_range (lo := 0) (n := ((2 : Int)).toNat) (fun j σ H' => ∃ y8 y9 y10 y11, σ = [some (.ref a), some (.ref r), some (.int (0 + (i : Int))), some v, some (.int (c : Int)), some (.ref D), some (.ref U), some (.ref W), y8, y9, y10, y11] ∧ Same H9 H')
        ⟨_, _, _, _, rfl, Same.refl _⟩ (fun j σ H' hj h => ?_) (fun σ H' h => ?_)
      · obtain ⟨y8, y9, y10, y11, rfl, s9⟩ := h
        have hU' := hU9.same s9
        have hps' := s9 _ _ hps9
        have hW' := s9 _ _ hW
        and_intros
        refine ⟨v, g, W, ps, rfl, hG9.same s9, hg, sql hW', by omega, fun l as' H10 s10 nl el hF => ?_⟩
        and_intros
        have hL : LL H10 l as' (allG g ps ps.length) := ⟨el, Paired.mapP hF fun _ _ z => z.2⟩
        have h24 : ∀ e ∈ allG g ps ps.length, e.length ≤ 24 := fun e he => by
          obtain ⟨x, hx⟩ := paired_r hF e he
          exact hx.2.2.2
        refine ⟨_, _, dLL (allG g ps ps.length), rfl, dp_LL hL, dp_LL (hU'.same s10), dep_LL (by rw [allG_len]; omega) h24, fun H11 s11 => ?_⟩
        and_intros
        refine ⟨.list (ps.map .int), .list (ps.map .int), dp_ints (sql (s11 _ _ (s10 _ _ hW'))), dp_ints (sql (s11 _ _ (s10 _ _ hps'))), lay_ints _, lay_ints _, ?_⟩
        rw [eqv_ints, decide_eq_true rfl]
        refine ⟨_, rfl, iteB0 (b := !true) rfl ?_⟩
        and_intros
        have el' := s11 _ _ el
        have hn : ∀ x ∈ as', H9 x = none ∧ x ≠ l := fun x hx => by
          obtain ⟨e, h1, h2, _⟩ := paired_l hF x hx
          exact ⟨s9.free h1, h2⟩
        have hx0 : ∀ x ∈ as', ∃ xs, H11 x = some (.lst xs) ∧ xs.length ≤ 24 + 0 := fun x hx => by
          obtain ⟨e, h1, h2, h3, h4⟩ := paired_l hF x hx
          exact ⟨_, s11 _ _ h3, by rw [List.length_map]; omega⟩
        have nl9 : H9 l = none := s9.free nl
        have s12 : Same H9 H11 := (s9.trans s10).trans s11
        have ln' : as'.length ≤ 1000 := by
          have : as'.length = (allG g ps ps.length).length := Paired.length hF
          rw [this, allG_len]
          omega
        refine ⟨⟨_, sql el'⟩, ?_⟩
        refine for_list (xs := as'.map V.ref) (fun k σ H' => ∃ y10, σ = [some (.ref a), some (.ref r), some (.int (0 + (i : Int))), some v, some (.int (c : Int)), some (.ref D), some (.ref U), some (.ref W), some (.int (0 + (j : Int))), some (.ref l), y10, y11] ∧ Same H9 H' ∧ H' l = some (.lst (as'.map V.ref)) ∧ ∀ x ∈ as', ∃ xs, H' x = some (.lst xs) ∧ xs.length ≤ 24 + k)
          ⟨_, rfl, s12, el', hx0⟩ (fun k σ H' _ h => ?_) (fun k x σ H' hk h => ?_) (fun σ H' h => ?_)
        · obtain ⟨y10, rfl, h1, h2, h3⟩ := h
          exact sql h2
        · obtain ⟨y10, rfl, h1, h2, h3⟩ := h
          obtain ⟨z, hz, rfl⟩ := List.mem_map.mp (List.mem_of_getElem? hk)
          have hk' : k < (as'.map V.ref).length := (List.getElem?_eq_some_iff.mp hk).1
          rw [List.length_map] at hk'
          obtain ⟨xs, hxs, hxl⟩ := h3 z hz
          and_intros
          refine ⟨.inl ⟨rfl, _, sql hxs⟩, ?_⟩
          refine ⟨_, _, _, rfl, rfl, hxs, szl (by omega), ?_⟩
          refine ⟨_, rfl, same_mut h1 (hn z hz).1, by rw [upd_ne (hn z hz).2.symm]; exact h2, fun u hu => ?_⟩
          by_cases e : u = z
          · subst e
            exact ⟨_, upd_same, by rw [List.length_append]; show _ + 1 ≤ _; omega⟩
          · obtain ⟨us, hus, hul⟩ := h3 u hu
            exact ⟨us, by rw [upd_ne e]; exact hus, by omega⟩
        · obtain ⟨y10, rfl, h1, h2, h3⟩ := h
          and_intros
          refine ⟨.inl ⟨rfl, _, sql h2⟩, ?_⟩
          and_intros
          intro M nM
          refine ⟨_, _, _, rfl, rfl, same_upd nM _ _ h2, by rw [List.length_map]; exact szl (by omega), ?_⟩
          exact ⟨_, _, _, _, rfl, same_mut (h1.trans (same_upd nM)) nl9⟩
      · obtain ⟨y8, y9, y10, y11, rfl, s9⟩ := h
        exact ⟨_, _, _, _, _, _, _, _, _, _, rfl, hR9.same s9⟩
  · exact q _
end
end St

namespace St
open PySem PySem.Spec PyProof.Rows L2
theorem all_mk {l : PySem.W.OpenLaw} {w : World} {K : PySem.W.Frag} {h : Heap} {mg : Str → Option Value} {fa f0 f1 f2 f3 f4 f5 f6 f7 f8 f9 f10 f11 f12 d0 d1 : Addr} (X : K.In h) (G : h.Ns mainGlobals mg) (hfa : mg "law" = some (.ref fa))
    {od0 an0 od1 an1 od2 an2 od3 an3 od4 an4 od5 an5 od6 an6 od7 an7 od8 an8 od9 an9 od10 an10 od11 an11 od12 an12 : Option Addr} {sl0 sl1 sl2 sl3 sl4 sl5 sl6 sl7 sl8 sl9 sl10 sl11 sl12 : Array (Option Value)} {oc0 kV0 dc0 pm0 cd0 ct0 oc1 kV1 dc1 pm1 cd1 ct1 oc2 kV2 dc2 pm2 cd2 ct2 oc3 kV3 dc3 pm3 cd3 ct3 oc4 kV4 dc4 pm4 cd4 ct4 oc5 kV5 dc5 pm5 cd5 ct5 oc6 kV6 dc6 pm6 cd6 ct6 oc7 kV7 dc7 pm7 cd7 ct7 oc8 kV8 dc8 pm8 cd8 ct8 oc9 kV9 dc9 pm9 cd9 ct9 oc10 kV10 dc10 pm10 cd10 ct10 oc11 kV11 dc11 pm11 cd11 ct11 oc12 kV12 dc12 pm12 cd12 ct12 : Value} {es0 es1 : Array DictEntry} {en0 en1 : Nat} {ti0 : Tok}
    (a0 : PySem.W.nsIn K mainGlobals "is_guesser" = some (some (.ref f0))) (l0 : K.lookup f0 = some ⟨oc0, od0, .func (PySem.W.fnOf "is_guesser" "is_guesser" (defArgs s_is_guesser) (defBody s_is_guesser) (defScope s_is_guesser) .none kV0 dc0 pm0 an0 cd0 ct0), sl0⟩) (c0 : PySem.W.codeIn K cd0 "is_guesser" = true) (k0 : PySem.W.keepIn K (.ref f0) = true)
    (a1 : PySem.W.nsIn K mainGlobals "need_guesser" = some (some (.ref f1))) (l1 : K.lookup f1 = some ⟨oc1, od1, .func (PySem.W.fnOf "need_guesser" "need_guesser" (defArgs s_need_guesser) (defBody s_need_guesser) (defScope s_need_guesser) .none kV1 dc1 pm1 an1 cd1 ct1), sl1⟩) (c1 : PySem.W.codeIn K cd1 "need_guesser" = true) (k1 : PySem.W.keepIn K (.ref f1) = true)
    (a2 : PySem.W.nsIn K mainGlobals "first_state" = some (some (.ref f2))) (l2 : K.lookup f2 = some ⟨oc2, od2, .func (PySem.W.fnOf "first_state" "first_state" (defArgs s_first_state) (defBody s_first_state) (defScope s_first_state) .none kV2 dc2 pm2 an2 cd2 ct2), sl2⟩) (c2 : PySem.W.codeIn K cd2 "first_state" = true) (k2 : PySem.W.keepIn K (.ref f2) = true)
    (a3 : PySem.W.nsIn K mainGlobals "strided" = some (some (.ref f3))) (l3 : K.lookup f3 = some ⟨oc3, od3, .func (PySem.W.fnOf "strided" "strided" (defArgs s_strided) (defBody s_strided) (defScope s_strided) .none kV3 dc3 pm3 an3 cd3 ct3), sl3⟩) (c3 : PySem.W.codeIn K cd3 "strided" = true) (k3 : PySem.W.keepIn K (.ref f3) = true)
    (a4 : PySem.W.nsIn K mainGlobals "paired" = some (some (.ref f4))) (l4 : K.lookup f4 = some ⟨oc4, od4, .func (PySem.W.fnOf "paired" "paired" (defArgs s_paired) (defBody s_paired) (defScope s_paired) .none kV4 dc4 pm4 an4 cd4 ct4), sl4⟩) (c4 : PySem.W.codeIn K cd4 "paired" = true) (k4 : PySem.W.keepIn K (.ref f4) = true)
    (a5 : PySem.W.nsIn K mainGlobals "stepped" = some (some (.ref f5))) (l5 : K.lookup f5 = some ⟨oc5, od5, .func (PySem.W.fnOf "stepped" "stepped" (defArgs s_stepped) (defBody s_stepped) (defScope s_stepped) .none kV5 dc5 pm5 an5 cd5 ct5), sl5⟩) (c5 : PySem.W.codeIn K cd5 "stepped" = true) (k5 : PySem.W.keepIn K (.ref f5) = true)
    (a6 : PySem.W.nsIn K mainGlobals "guesses" = some (some (.ref f6))) (l6 : K.lookup f6 = some ⟨oc6, od6, .func (PySem.W.fnOf "guesses" "guesses" (defArgs s_guesses) (defBody s_guesses) (defScope s_guesses) .none kV6 dc6 pm6 an6 cd6 ct6), sl6⟩) (c6 : PySem.W.codeIn K cd6 "guesses" = true) (k6 : PySem.W.keepIn K (.ref f6) = true)
    (a7 : PySem.W.nsIn K mainGlobals "_law_taken" = some (some (.ref f7))) (l7 : K.lookup f7 = some ⟨oc7, od7, .func (PySem.W.fnOf "_law_taken" "_law_taken" (defArgs s__law_taken) (defBody s__law_taken) (defScope s__law_taken) .none kV7 dc7 pm7 an7 cd7 ct7), sl7⟩) (c7 : PySem.W.codeIn K cd7 "_law_taken" = true) (k7 : PySem.W.keepIn K (.ref f7) = true)
    (a8 : PySem.W.nsIn K mainGlobals "_law_alike" = some (some (.ref f8))) (l8 : K.lookup f8 = some ⟨oc8, od8, .func (PySem.W.fnOf "_law_alike" "_law_alike" (defArgs s__law_alike) (defBody s__law_alike) (defScope s__law_alike) .none kV8 dc8 pm8 an8 cd8 ct8), sl8⟩) (c8 : PySem.W.codeIn K cd8 "_law_alike" = true) (k8 : PySem.W.keepIn K (.ref f8) = true)
    (a9 : PySem.W.nsIn K mainGlobals "_law_guesser" = some (some (.ref f9))) (l9 : K.lookup f9 = some ⟨oc9, od9, .func (PySem.W.fnOf "_law_guesser" "_law_guesser" (defArgs s__law_guesser) (defBody s__law_guesser) (defScope s__law_guesser) .none kV9 dc9 pm9 an9 cd9 ct9), sl9⟩) (c9 : PySem.W.codeIn K cd9 "_law_guesser" = true) (k9 : PySem.W.keepIn K (.ref f9) = true)
    (a10 : PySem.W.nsIn K mainGlobals "_law_places" = some (some (.ref f10))) (l10 : K.lookup f10 = some ⟨oc10, od10, .func (PySem.W.fnOf "_law_places" "_law_places" (defArgs s__law_places) (defBody s__law_places) (defScope s__law_places) .none kV10 dc10 pm10 an10 cd10 ct10), sl10⟩) (c10 : PySem.W.codeIn K cd10 "_law_places" = true) (k10 : PySem.W.keepIn K (.ref f10) = true)
    (a11 : PySem.W.nsIn K mainGlobals "_law_guessed" = some (some (.ref f11))) (l11 : K.lookup f11 = some ⟨oc11, od11, .func (PySem.W.fnOf "_law_guessed" "_law_guessed" (defArgs s__law_guessed) (defBody s__law_guessed) (defScope s__law_guessed) .none kV11 dc11 pm11 an11 cd11 ct11), sl11⟩) (c11 : PySem.W.codeIn K cd11 "_law_guessed" = true) (k11 : PySem.W.keepIn K (.ref f11) = true)
    (a12 : PySem.W.nsIn K mainGlobals "law" = some (some (.ref f12))) (l12 : K.lookup f12 = some ⟨oc12, od12, .func (PySem.W.fnOf "law" "law" (defArgs s_law) (defBody s_law) (defScope s_law) .none kV12 dc12 pm12 an12 cd12 ct12), sl12⟩) (c12 : PySem.W.codeIn K cd12 "law" = true) (k12 : PySem.W.keepIn K (.ref f12) = true)
    (ad0 : PySem.W.nsIn K mainGlobals "SORTS" = some (some (.ref d0))) (ld0 : K.lookup d0 = some ⟨.type "dict", none, .dict es0 en0, #[]⟩) (lo0 : (d0 == sysModules) = false) (li0 : PySem.W.KeysLit w.params es0.toList) (ee0 : ∃ t0 u0 t1 u1 t2 u2 t3 u3 t4 u4, es0.toList.map (fun e => (e.key, e.val)) = [(.str "none" t0, .int 1 u0), (.str "next" t1, .int 2 u1), (.str "stride" t2, .int 2 u2), (.str "pairs" t3, .int 2 u3), (.str "both" t4, .int 3 u4)])
    (ad1 : PySem.W.nsIn K mainGlobals "MOST_OF" = some (some (.ref d1))) (ld1 : K.lookup d1 = some ⟨.type "dict", none, .dict es1 en1, #[]⟩) (lo1 : (d1 == sysModules) = false) (li1 : PySem.W.KeysLit w.params es1.toList) (ee1 : ∃ t0 u0 t1 u1 t2 u2, es1.toList.map (fun e => (e.key, e.val)) = [(.str "next" t0, .int 3 u0), (.str "stride" t1, .int 3 u1), (.str "pairs" t2, .int 2 u2)])
    (ai0 : PySem.W.nsIn K mainGlobals "MOST_WITHIN" = some (some (.int 3 ti0)))
    (z0 : PySem.W.nsIn K mainGlobals "len" = some none)
    (z1 : PySem.W.nsIn K mainGlobals "range" = some none)
    (z2 : PySem.W.nsIn K mainGlobals "int" = some none)
    (z3 : PySem.W.nsIn K mainGlobals "str" = some none)
    (z4 : PySem.W.nsIn K mainGlobals "bool" = some none)
    (z5 : PySem.W.nsIn K mainGlobals "tuple" = some none)
    (z6 : PySem.W.nsIn K mainGlobals "list" = some none)
    (z7 : PySem.W.nsIn K mainGlobals "isinstance" = some none)
    (z8 : PySem.W.nsIn K mainGlobals "max" = some none)
    (z9 : PySem.W.nsIn K mainGlobals "min" = some none)
    (z10 : PySem.W.nsIn K mainGlobals "sum" = some none)
    (z11 : PySem.W.nsIn K mainGlobals "sorted" = some none)
    (z12 : PySem.W.nsIn K mainGlobals "dict" = some none)
    (z13 : PySem.W.nsIn K mainGlobals "set" = some none)
    (z14 : PySem.W.nsIn K mainGlobals "zip" = some none)
    (z15 : PySem.W.nsIn K mainGlobals "enumerate" = some none) :
    ∃ fd : FuncData, (∀ (s : Shared) (v : Value), BindsTo s fd ⟨[v], []⟩ [("_law_script", v)]) ∧ ∀ base : Heap, K.In base → base.Ns mainGlobals mg → FnOk l.prog w K mg base CX0 8 fa fd ["_law_script"] (spLaw K) := by
  have e := hfa.symm.trans (PySem.W.mg_of X G a12)
  cases e
  have D_is_guesser : Df K mg "is_guesser" s_is_guesser p_is_guesser f0 (PySem.W.fnOf "is_guesser" "is_guesser" (defArgs s_is_guesser) (defBody s_is_guesser) (defScope s_is_guesser) .none kV0 dc0 pm0 an0 cd0 ct0) := ⟨fun_mk (st := s_is_guesser) l0 c0 k0, PySem.W.mg_of X G a0, (fun_mk (st := s_is_guesser) l0 c0 k0).binds (ps := p_is_guesser) fun _ _ _ _ _ _ us hl => match us, hl with | [_, _], _ => rfl⟩
  have D_need_guesser : Df K mg "need_guesser" s_need_guesser p_need_guesser f1 (PySem.W.fnOf "need_guesser" "need_guesser" (defArgs s_need_guesser) (defBody s_need_guesser) (defScope s_need_guesser) .none kV1 dc1 pm1 an1 cd1 ct1) := ⟨fun_mk (st := s_need_guesser) l1 c1 k1, PySem.W.mg_of X G a1, (fun_mk (st := s_need_guesser) l1 c1 k1).binds (ps := p_need_guesser) fun _ _ _ _ _ _ us hl => match us, hl with | [_], _ => rfl⟩
  have D_first_state : Df K mg "first_state" s_first_state p_first_state f2 (PySem.W.fnOf "first_state" "first_state" (defArgs s_first_state) (defBody s_first_state) (defScope s_first_state) .none kV2 dc2 pm2 an2 cd2 ct2) := ⟨fun_mk (st := s_first_state) l2 c2 k2, PySem.W.mg_of X G a2, (fun_mk (st := s_first_state) l2 c2 k2).binds (ps := p_first_state) fun _ _ _ _ _ _ us hl => match us, hl with | [_], _ => rfl⟩
  have D_strided : Df K mg "strided" s_strided p_strided f3 (PySem.W.fnOf "strided" "strided" (defArgs s_strided) (defBody s_strided) (defScope s_strided) .none kV3 dc3 pm3 an3 cd3 ct3) := ⟨fun_mk (st := s_strided) l3 c3 k3, PySem.W.mg_of X G a3, (fun_mk (st := s_strided) l3 c3 k3).binds (ps := p_strided) fun _ _ _ _ _ _ us hl => match us, hl with | [_, _, _], _ => rfl⟩
  have D_paired : Df K mg "paired" s_paired p_paired f4 (PySem.W.fnOf "paired" "paired" (defArgs s_paired) (defBody s_paired) (defScope s_paired) .none kV4 dc4 pm4 an4 cd4 ct4) := ⟨fun_mk (st := s_paired) l4 c4 k4, PySem.W.mg_of X G a4, (fun_mk (st := s_paired) l4 c4 k4).binds (ps := p_paired) fun _ _ _ _ _ _ us hl => match us, hl with | [_, _, _], _ => rfl⟩
  have D_stepped : Df K mg "stepped" s_stepped p_stepped f5 (PySem.W.fnOf "stepped" "stepped" (defArgs s_stepped) (defBody s_stepped) (defScope s_stepped) .none kV5 dc5 pm5 an5 cd5 ct5) := ⟨fun_mk (st := s_stepped) l5 c5 k5, PySem.W.mg_of X G a5, (fun_mk (st := s_stepped) l5 c5 k5).binds (ps := p_stepped) fun _ _ _ _ _ _ us hl => match us, hl with | [_, _, _], _ => rfl⟩
  have D_guesses : Df K mg "guesses" s_guesses p_guesses f6 (PySem.W.fnOf "guesses" "guesses" (defArgs s_guesses) (defBody s_guesses) (defScope s_guesses) .none kV6 dc6 pm6 an6 cd6 ct6) := ⟨fun_mk (st := s_guesses) l6 c6 k6, PySem.W.mg_of X G a6, (fun_mk (st := s_guesses) l6 c6 k6).binds (ps := p_guesses) fun _ _ _ _ _ _ us hl => match us, hl with | [_, _], _ => rfl⟩
  have D__law_taken : Df K mg "_law_taken" s__law_taken p__law_taken f7 (PySem.W.fnOf "_law_taken" "_law_taken" (defArgs s__law_taken) (defBody s__law_taken) (defScope s__law_taken) .none kV7 dc7 pm7 an7 cd7 ct7) := ⟨fun_mk (st := s__law_taken) l7 c7 k7, PySem.W.mg_of X G a7, (fun_mk (st := s__law_taken) l7 c7 k7).binds (ps := p__law_taken) fun _ _ _ _ _ _ us hl => match us, hl with | [_, _], _ => rfl⟩
  have D__law_alike : Df K mg "_law_alike" s__law_alike p__law_alike f8 (PySem.W.fnOf "_law_alike" "_law_alike" (defArgs s__law_alike) (defBody s__law_alike) (defScope s__law_alike) .none kV8 dc8 pm8 an8 cd8 ct8) := ⟨fun_mk (st := s__law_alike) l8 c8 k8, PySem.W.mg_of X G a8, (fun_mk (st := s__law_alike) l8 c8 k8).binds (ps := p__law_alike) fun _ _ _ _ _ _ us hl => match us, hl with | [_, _], _ => rfl⟩
  have D__law_guesser : Df K mg "_law_guesser" s__law_guesser p__law_guesser f9 (PySem.W.fnOf "_law_guesser" "_law_guesser" (defArgs s__law_guesser) (defBody s__law_guesser) (defScope s__law_guesser) .none kV9 dc9 pm9 an9 cd9 ct9) := ⟨fun_mk (st := s__law_guesser) l9 c9 k9, PySem.W.mg_of X G a9, (fun_mk (st := s__law_guesser) l9 c9 k9).binds (ps := p__law_guesser) fun _ _ _ _ _ _ us hl => match us, hl with | [_, _], _ => rfl⟩
  have D__law_places : Df K mg "_law_places" s__law_places p__law_places f10 (PySem.W.fnOf "_law_places" "_law_places" (defArgs s__law_places) (defBody s__law_places) (defScope s__law_places) .none kV10 dc10 pm10 an10 cd10 ct10) := ⟨fun_mk (st := s__law_places) l10 c10 k10, PySem.W.mg_of X G a10, (fun_mk (st := s__law_places) l10 c10 k10).binds (ps := p__law_places) fun _ _ _ _ _ _ us hl => match us, hl with | [_, _, _], _ => rfl⟩
  have D__law_guessed : Df K mg "_law_guessed" s__law_guessed p__law_guessed f11 (PySem.W.fnOf "_law_guessed" "_law_guessed" (defArgs s__law_guessed) (defBody s__law_guessed) (defScope s__law_guessed) .none kV11 dc11 pm11 an11 cd11 ct11) := ⟨fun_mk (st := s__law_guessed) l11 c11 k11, PySem.W.mg_of X G a11, (fun_mk (st := s__law_guessed) l11 c11 k11).binds (ps := p__law_guessed) fun _ _ _ _ _ _ us hl => match us, hl with | [_, _], _ => rfl⟩
  have I_SORTS : IDict K w d0 [("none", 1), ("next", 2), ("stride", 2), ("pairs", 2), ("both", 3)] := ⟨⟨es0, en0, ⟨ld0, li0, lo0⟩, by obtain ⟨_, _, _, _, _, _, _, _, _, _, e⟩ := ee0; rw [e]; exact (.cons ⟨⟨_, rfl⟩, ⟨_, rfl⟩⟩ (.cons ⟨⟨_, rfl⟩, ⟨_, rfl⟩⟩ (.cons ⟨⟨_, rfl⟩, ⟨_, rfl⟩⟩ (.cons ⟨⟨_, rfl⟩, ⟨_, rfl⟩⟩ (.cons ⟨⟨_, rfl⟩, ⟨_, rfl⟩⟩ .nil)))))⟩⟩
  have g_SORTS := PySem.W.mg_of X G ad0
  have I_MOST_OF : IDict K w d1 [("next", 3), ("stride", 3), ("pairs", 2)] := ⟨⟨es1, en1, ⟨ld1, li1, lo1⟩, by obtain ⟨_, _, _, _, _, _, e⟩ := ee1; rw [e]; exact (.cons ⟨⟨_, rfl⟩, ⟨_, rfl⟩⟩ (.cons ⟨⟨_, rfl⟩, ⟨_, rfl⟩⟩ (.cons ⟨⟨_, rfl⟩, ⟨_, rfl⟩⟩ .nil)))⟩⟩
  have g_MOST_OF := PySem.W.mg_of X G ad1
  have g_MOST_WITHIN : ∃ t, mg "MOST_WITHIN" = some (.int 3 t) := ⟨_, PySem.W.mg_of X G ai0⟩
  have T : Nms mg := ⟨PySem.W.mg_none_of X G z0, PySem.W.mg_none_of X G z1, PySem.W.mg_none_of X G z2, PySem.W.mg_none_of X G z3, PySem.W.mg_none_of X G z4, PySem.W.mg_none_of X G z5, PySem.W.mg_none_of X G z6, PySem.W.mg_none_of X G z7, PySem.W.mg_none_of X G z8, PySem.W.mg_none_of X G z9, PySem.W.mg_none_of X G z10, PySem.W.mg_none_of X G z11, PySem.W.mg_none_of X G z12, PySem.W.mg_none_of X G z13, PySem.W.mg_none_of X G z14, PySem.W.mg_none_of X G z15⟩
  exact ⟨PySem.W.fnOf "law" "law" (defArgs s_law) (defBody s_law) (defScope s_law) .none kV12 dc12 pm12 an12 cd12 ct12, fun s v => .of_eq rfl, fun base _ _ => ok_law T ⟨g_SORTS, I_SORTS, g_MOST_OF, I_MOST_OF, g_MOST_WITHIN⟩ D_is_guesser D_need_guesser D_first_state D_strided D_paired D_stepped D_guesses D__law_taken D__law_alike D__law_guesser D__law_places D__law_guessed (fun_mk (st := s_law) l12 c12 k12)⟩
end St
open PySem PySem.W PyProof.Rows
set_option maxHeartbeats 0 in
theorem PySem.Challenge.cw_stridewell_k03_whole_what_is_guessed_holds : PySem.Challenge.rw_stridewell_k03_whole_what_is_guessed.Holds := by
  w_on; o_law; k_head; (case hw => w_witness2)
  k_fill
  refine L2.walk_of (l := PySem.Challenge.rw_stridewell_k03_whole_what_is_guessed) (n := 63) (k := 8) (x := "_law_script") (CX := fun _ => L2.CX0) (sp := fun w => St.spLaw _) rfl (by decide) rfl ⟨rfl, by decide, by decide⟩ (fun w h Y => PySem.W.kIn_of Y) ?F (fun _ _ a ns hl hO hS => ⟨a, ns, rfl, St.Sc.of hO hS, fun _ => rfl⟩) (fun _ _ _ _ _ h => h)
  case F =>
    intro w mg fa h KX G hmg
    refine' St.all_mk KX G hmg ?a0 ?l0 ?c0 ?k0 ?a1 ?l1 ?c1 ?k1 ?a2 ?l2 ?c2 ?k2 ?a3 ?l3 ?c3 ?k3 ?a4 ?l4 ?c4 ?k4 ?a5 ?l5 ?c5 ?k5 ?a6 ?l6 ?c6 ?k6 ?a7 ?l7 ?c7 ?k7 ?a8 ?l8 ?c8 ?k8 ?a9 ?l9 ?c9 ?k9 ?a10 ?l10 ?c10 ?k10 ?a11 ?l11 ?c11 ?k11 ?a12 ?l12 ?c12 ?k12 ?ad0 ?ld0 ?lo0 ?li0 ?ee0 ?ad1 ?ld1 ?lo1 ?li1 ?ee1 ?ai0 ?z0 ?z1 ?z2 ?z3 ?z4 ?z5 ?z6 ?z7 ?z8 ?z9 ?z10 ?z11 ?z12 ?z13 ?z14 ?z15
    (case a0 => k_is); (case l0 => k_is); (case c0 => k_is); (case k0 => k_is); (case a1 => k_is); (case l1 => k_is)
    (case c1 => k_is); (case k1 => k_is); (case a2 => k_is); (case l2 => k_is); (case c2 => k_is); (case k2 => k_is)
    (case a3 => k_is); (case l3 => k_is); (case c3 => k_is); (case k3 => k_is); (case a4 => k_is); (case l4 => k_is)
    (case c4 => k_is); (case k4 => k_is); (case a5 => k_is); (case l5 => k_is); (case c5 => k_is); (case k5 => k_is)
    (case a6 => k_is); (case l6 => k_is); (case c6 => k_is); (case k6 => k_is); (case a7 => k_is); (case l7 => k_is)
    (case c7 => k_is); (case k7 => k_is); (case a8 => k_is); (case l8 => k_is); (case c8 => k_is); (case k8 => k_is)
    (case a9 => k_is); (case l9 => k_is); (case c9 => k_is); (case k9 => k_is); (case a10 => k_is); (case l10 => k_is)
    (case c10 => k_is); (case k10 => k_is); (case a11 => k_is); (case l11 => k_is); (case c11 => k_is); (case k11 => k_is)
    (case a12 => k_is); (case l12 => k_is); (case c12 => k_is); (case k12 => k_is); (case ad0 => k_is); (case ld0 => k_is)
    (case lo0 => decide); (case li0 => exact ⟨⟨_, _, rfl, rfl⟩, ⟨_, _, rfl, rfl⟩, ⟨_, _, rfl, rfl⟩, ⟨_, _, rfl, rfl⟩, ⟨_, _, rfl, rfl⟩, True.intro⟩); (case ee0 => exact ⟨_, _, _, _, _, _, _, _, _, _, rfl⟩); (case ad1 => k_is); (case ld1 => k_is); (case lo1 => decide)
    (case li1 => exact ⟨⟨_, _, rfl, rfl⟩, ⟨_, _, rfl, rfl⟩, ⟨_, _, rfl, rfl⟩, True.intro⟩); (case ee1 => exact ⟨_, _, _, _, _, _, rfl⟩); (case ai0 => k_is); (case z0 => k_is); (case z1 => k_is); (case z2 => k_is)
    (case z3 => k_is); (case z4 => k_is); (case z5 => k_is); (case z6 => k_is); (case z7 => k_is); (case z8 => k_is)
    (case z9 => k_is); (case z10 => k_is); (case z11 => k_is); (case z12 => k_is); (case z13 => k_is); (case z14 => k_is)
    (case z15 => k_is)

