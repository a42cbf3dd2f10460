import PyProof.Rows.All
import Wide.All
import OpenK.AllK
import Wide.FinOn
import HandS.ForMost
import HandS.IsInst
import HandS.RaiseMore
import HandS.More
import HandS.Evl
import KE.KDictPairs
import HandS.DictTup
import HandS.SortOrd
import HandS.SortRule
import HandS.TupAny
import HandS.WordsExc
import HandS.ExcInit
import HandS.ExcField
import HandS.ExcIs
import HandS.ExcOwn
import HandS.ClsMeth
import KE.KExcIs
import HandS.SetFor
import HandS.Lambda
import HandS.EndTab
import HandS.Walk
import KE.KeyNested
import KE.KDictDisplayH
import KE.DatumOrd
import HandS.Zip
import HandS.TupMul
import HandS.Conv
import PySem.Challenge.RW_stridewell_k01_settings_and_guessers_ref
set_option Elab.async false
set_option linter.all false
set_option maxRecDepth 100000
set_option maxHeartbeats 0
namespace St
open PySem PySem.Spec PyProof.Rows L2
/-! ### a def of the text with its name and how its arguments bind -/
structure Df (K : PySem.W.Frag) (mg : Str → Option Value) (x : Str) (st : Stmt) (ps : List Str) (f : Addr) (fd : FuncData) : Prop where
  F : Fun K x x st f fd
  m : mg x = some (.ref f)
  b : Binds K fd ps []
/-- the built-ins' names are free -/
structure Nms (mg : Str → Option Value) : Prop where
  n_len : mg "len" = none
  n_range : mg "range" = none
  n_int : mg "int" = none
  n_str : mg "str" = none
  n_bool : mg "bool" = none
  n_tuple : mg "tuple" = none
  n_list : mg "list" = none
  n_isinstance : mg "isinstance" = none
  n_max : mg "max" = none
  n_min : mg "min" = none
  n_sum : mg "sum" = none
  n_sorted : mg "sorted" = none
  n_dict : mg "dict" = none
  n_set : mg "set" = none
  n_zip : mg "zip" = none
  n_enumerate : mg "enumerate" = none
/-! ### heaps -/
theorem same_upd {H : Hp} {p : Addr} {o : HO} (h : H p = none) : Same H (upd H p o) := fun b x e => by
  rw [upd_ne (ne_of_none e h)]
  exact e
/-- an object that H does not know may change -/
theorem same_mut {H H' : Hp} {p : Addr} {o : HO} (e : Same H H') (h : H p = none) : Same H (upd H' p o) := fun a u ha => by
  rw [upd_ne (ne_of_none ha h)]
  exact e a u ha
theorem same_rd {H H' : Hp} {a : Addr} {u : HO} (e : Same H H') (h : Rd H a u) : Rd H' a u := by
  rcases h with h | ⟨o, h⟩
  · exact Or.inl (e a _ h)
  · exact Or.inr ⟨o, e a _ h⟩
theorem same_t {K : PySem.W.Frag} {H H' : Hp} {a : Addr} {xs : List V} (e : Same H H') (h : SqT K H a xs) : SqT K H' a xs := by
  rcases h with h | h
  · exact Or.inl (same_rd e h)
  · exact Or.inr h
theorem same_l {K : PySem.W.Frag} {H H' : Hp} {a : Addr} {xs : List V} (e : Same H H') (h : SqL K H a xs) : SqL K H' a xs := e.seq h
theorem sql {K : PySem.W.Frag} {H : Hp} {a : Addr} {xs : List V} (h : H a = some (.lst xs)) : SqL K H a xs := Or.inl (Or.inl h)
theorem sqt {K : PySem.W.Frag} {H : Hp} {a : Addr} {xs : List V} (h : H a = some (.tup xs)) : SqT K H a xs := Or.inl (Or.inl h)
theorem sz {n : Nat} (h : n ≤ 1000000) : n ≤ sizeLine := Nat.le_trans h (by decide)
theorem szl {n : Nat} (h : n < 1000000) : n < sizeLine := Nat.lt_of_lt_of_le h (by decide)
theorem sz_1 {a0 : V} : [a0].length ≤ sizeLine := by show 1 ≤ sizeLine; decide
theorem sz_2 {a0 a1 : V} : [a0, a1].length ≤ sizeLine := by show 2 ≤ sizeLine; decide
theorem sz_3 {a0 a1 a2 : V} : [a0, a1, a2].length ≤ sizeLine := by show 3 ≤ sizeLine; decide
theorem sz_4 {a0 a1 a2 a3 : V} : [a0, a1, a2, a3].length ≤ sizeLine := by show 4 ≤ sizeLine; decide
theorem sz_5 {a0 a1 a2 a3 a4 : V} : [a0, a1, a2, a3, a4].length ≤ sizeLine := by show 5 ≤ sizeLine; decide
theorem sz_6 {a0 a1 a2 a3 a4 a5 : V} : [a0, a1, a2, a3, a4, a5].length ≤ sizeLine := by show 6 ≤ sizeLine; decide
theorem sz_7 {a0 a1 a2 a3 a4 a5 a6 : V} : [a0, a1, a2, a3, a4, a5, a6].length ≤ sizeLine := by show 7 ≤ sizeLine; decide
theorem sz_8 {a0 a1 a2 a3 a4 a5 a6 a7 : V} : [a0, a1, a2, a3, a4, a5, a6, a7].length ≤ sizeLine := by show 8 ≤ sizeLine; decide
/-- all but r is as it was -/
def SameX (r : Addr) (H H' : Hp) : Prop := ∀ b o, b ≠ r → H b = some o → H' b = some o
theorem SameX.refl (r : Addr) (H : Hp) : SameX r H H := fun _ _ _ h => h
theorem SameX.trans {r : Addr} {H H1 H2 : Hp} (a : SameX r H H1) (b : SameX r H1 H2) : SameX r H H2 := fun c o n h => b c o n (a c o n h)
theorem SameX.of {r : Addr} {H H' : Hp} (a : Same H H') : SameX r H H' := fun c o _ h => a c o h
theorem SameX.upd {r : Addr} {H : Hp} {o : HO} : SameX r H (upd H r o) := fun c u n h => by
  rw [upd_ne n]
  exact h
theorem SameX.rd {r : Addr} {H H' : Hp} {a : Addr} {u : HO} (e : SameX r H H') (n : a ≠ r) (h : Rd H a u) : Rd H' a u := by
  rcases h with h | ⟨o, h⟩
  · exact Or.inl (e a _ n h)
  · exact Or.inr ⟨o, e a _ n h⟩
/-- r is a list: no tuple lies there -/
def LstAt (H : Hp) (r : Addr) : Prop := ∃ xs, H r = some (.lst xs)
theorem ne_tup {H : Hp} {a r : Addr} {xs : List V} (h : Rd H a (.tup xs)) (l : LstAt H r) : a ≠ r := by
  obtain ⟨ys, l⟩ := l
  intro e
  subst e
  rcases h with h | ⟨o, h⟩
  · rw [l] at h; cases h
  · rw [l] at h; cases h
theorem SameX.t {K : PySem.W.Frag} {r : Addr} {H H' : Hp} {a : Addr} {xs : List V} (e : SameX r H H') (l : LstAt H r) (h : SqT K H a xs) : SqT K H' a xs := by
  rcases h with h | h
  · exact Or.inl (e.rd (ne_tup h l) h)
  · exact Or.inr h
/-! ### kinds of values -/
theorem tyx_T {K : PySem.W.Frag} {H : Hp} {a : Addr} {xs : List V} (h : SqT K H a xs) : TyX K H (.ref a) (.type "tuple") := by
  rcases h with (h | ⟨o, h⟩) | ⟨o, its, n, h, c, _⟩
  · exact .base (.tup h)
  · exact .fTuple h
  · exact .kTuple h c
theorem tyx_L {K : PySem.W.Frag} {H : Hp} {a : Addr} {xs : List V} (h : SqL K H a xs) : TyX K H (.ref a) (.type "list") := by
  rcases h with (h | ⟨o, h⟩) | ⟨o, its, n, h, c, _⟩
  · exact .base (.lst h)
  · exact .base (.frz h)
  · exact .kList h c
/-! ### guessers -/
inductive G where
  | nil
  | leaf (w : Str) (ns : List Int)
  | b1 (a : G)
  | both (a b : G)
  | b3 (a b c : G)
def IsG (K : PySem.W.Frag) (H : Hp) : G → V → Prop
  | .nil, v => ∃ p, v = .ref p ∧ SqT K H p []
  | .leaf w ns, v => ∃ p, v = .ref p ∧ SqT K H p (.str w :: ns.map V.int)
  | .b1 a, v => ∃ p x, v = .ref p ∧ SqT K H p [.str "both", x] ∧ IsG K H a x
  | .both a b, v => ∃ p x y, v = .ref p ∧ SqT K H p [.str "both", x, y] ∧ IsG K H a x ∧ IsG K H b y
  | .b3 a b c, v => ∃ p x y z, v = .ref p ∧ SqT K H p [.str "both", x, y, z] ∧ IsG K H a x ∧ IsG K H b y ∧ IsG K H c z
theorem IsG.mono {K : PySem.W.Frag} {H H' : Hp} (f : ∀ a xs, SqT K H a xs → SqT K H' a xs) : ∀ {g : G} {v : V}, IsG K H g v → IsG K H' g v
  | .nil, _, ⟨p, e, h⟩ => ⟨p, e, f _ _ h⟩
  | .leaf _ _, _, ⟨p, e, h⟩ => ⟨p, e, f _ _ h⟩
  | .b1 _, _, ⟨p, x, e, h, ha⟩ => ⟨p, x, e, f _ _ h, ha.mono f⟩
  | .both _ _, _, ⟨p, x, y, e, h, ha, hb⟩ => ⟨p, x, y, e, f _ _ h, ha.mono f, hb.mono f⟩
  | .b3 _ _ _, _, ⟨p, x, y, z, e, h, ha, hb, hc⟩ => ⟨p, x, y, z, e, f _ _ h, ha.mono f, hb.mono f, hc.mono f⟩
theorem IsG.same {K : PySem.W.Frag} {H H' : Hp} {g : G} {v : V} (h : IsG K H g v) (e : Same H H') : IsG K H' g v := h.mono fun _ _ => same_t e
theorem IsG.sameX {K : PySem.W.Frag} {H H' : Hp} {g : G} {v : V} {r : Addr} (h : IsG K H g v) (e : SameX r H H') (l : LstAt H r) : IsG K H' g v := h.mono fun _ _ => e.t l
/-- a word's length; how great its number may be -/
def sortsL : List (Str × Int) := [("none", 1), ("next", 2), ("stride", 2), ("pairs", 2), ("both", 3)]
def mostL : List (Str × Int) := [("next", 3), ("stride", 3), ("pairs", 2)]
/-- the words of the leaves are not both -/
def WfG : G → Prop
  | .nil => True
  | .leaf s _ => s ≠ ("both" : Str)
  | .b1 a => WfG a
  | .both a b => WfG a ∧ WfG b
  | .b3 a b c => WfG a ∧ WfG b ∧ WfG c
def numOk (s : Str) : List Int → Bool
  | [] => false
  | n :: _ => (match mostL.lookup s with
    | some m => decide (1 ≤ n) && decide (n ≤ m)
    | none => false)
/-- what is_guesser tells -/
def isG : Nat → G → Bool
  | _, .nil => false
  | w, .leaf s ns => (match sortsL.lookup s with
      | none => false
      | some k => decide (((ns.length : Nat) : Int) + 1 = k) && decide (w ≤ 3) && (decide (s = "none") || numOk s ns))
  | _, .b1 _ => false
  | w, .both a b => decide (w ≤ 3) && (isG (w + 1) a && isG (w + 1) b)
  | _, .b3 _ _ _ => false
/-- a guesser, w bothes left -/
def good : Nat → G → Bool
  | _, .nil => false
  | _, .leaf w ns => decide (w = "none" ∧ ns = []) || (match ns with
      | [n] => decide ((w = "next" ∧ 1 ≤ n ∧ n ≤ 3) ∨ (w = "stride" ∧ 1 ≤ n ∧ n ≤ 3) ∨ (w = "pairs" ∧ 1 ≤ n ∧ n ≤ 2))
      | _ => false)
  | _, .b1 _ => false
  | 0, .both _ _ => false
  | n + 1, .both a b => good n a && good n b
  | _, .b3 _ _ _ => false
/-! ### what the law draws from -/
/-- tuples and known things stay -/
structure Imm (H H' : Hp) : Prop where
  tup : ∀ b xs, H b = some (.tup xs) → H' b = some (.tup xs)
  frz : ∀ b o u, ((∃ xs, u = .tup xs) ∨ ∃ xs, u = .lst xs) → H b = some (.frz o u) → H' b = some (.frz o u)
theorem Imm.refl (H : Hp) : Imm H H := ⟨fun _ _ h => h, fun _ _ _ _ h => h⟩
theorem Imm.trans {H H1 H2 : Hp} (a : Imm H H1) (b : Imm H1 H2) : Imm H H2 := ⟨fun c xs h => b.tup c xs (a.tup c xs h), fun c o u k h => b.frz c o u k (a.frz c o u k h)⟩
theorem Imm.same {H H' : Hp} (e : Same H H') : Imm H H' := ⟨fun c xs h => e c _ h, fun c o u _ h => e c _ h⟩
theorem Imm.sameX {r : Addr} {H H' : Hp} (e : SameX r H H') (l : LstAt H r) : Imm H H' := by
  obtain ⟨ys, l⟩ := l
  exact ⟨fun c xs h => e c _ (fun z => by subst z; rw [l] at h; cases h) h, fun c o u _ h => e c _ (fun z => by subst z; rw [l] at h; cases h) h⟩
theorem Imm.upd {r : Addr} {H : Hp} {o : HO} (l : LstAt H r) : Imm H (upd H r o) := Imm.sameX SameX.upd l
theorem Imm.t {K : PySem.W.Frag} {H H' : Hp} {a : Addr} {xs : List V} (e : Imm H H') (h : SqT K H a xs) : SqT K H' a xs := by
  rcases h with (h | ⟨o, h⟩) | h
  · exact .inl (.inl (e.tup _ _ h))
  · exact .inl (.inr ⟨o, e.frz _ _ _ (.inl ⟨_, rfl⟩) h⟩)
  · exact .inr h
theorem IsG.imm {K : PySem.W.Frag} {H H' : Hp} {g : G} {v : V} (h : IsG K H g v) (e : Imm H H') : IsG K H' g v := h.mono fun _ _ => e.t
/-- the script: known to the object, or of the module -/
def Sc (K : PySem.W.Frag) (H : Hp) (a : Addr) (xs : List V) : Prop := (∃ o, H a = some (.frz o (.lst xs))) ∨
    ∃ (o : Obj) (its : Array Value) (n : Nat), K.lookup a = some o ∧ o.cls = .type "list" ∧ o.dict = none ∧ o.data = .seq its n ∧ its.size ≤ sizeLine ∧ Vals xs its.toList
theorem Sc.sql {K : PySem.W.Frag} {H : Hp} {a : Addr} {xs : List V} (h : Sc K H a xs) : SqL K H a xs := by
  rcases h with h | h
  · exact .inl (.inr h)
  · exact .inr h
theorem Sc.imm {K : PySem.W.Frag} {H H' : Hp} {a : Addr} {xs : List V} (h : Sc K H a xs) (e : Imm H H') : Sc K H' a xs := by
  rcases h with ⟨o, h⟩ | h
  · exact .inl ⟨o, e.frz _ _ _ (.inr ⟨_, rfl⟩) h⟩
  · exact .inr h
theorem Sc.of {K : PySem.W.Frag} {H : Hp} {a : Addr} {xs : List V} (O : Only H) (h : SqL K H a xs) : Sc K H a xs := by
  rcases h with (h | h) | h
  · rcases O a with z | ⟨o, ys, z⟩
    · rw [z] at h; cases h
    · rw [z] at h; cases h
  · exact .inl h
  · exact .inr h
/-- the law's row: the script, the next place, the mixed number -/
def Row (K : PySem.W.Frag) (H : Hp) (r : Addr) : Prop := ∃ (sc : Addr) (ns : List Int) (i s : Int), H r = some (.lst [.ref sc, .int i, .int s]) ∧ Sc K H sc (ns.map V.int) ∧ 0 ≤ i
theorem Row.at_ {K : PySem.W.Frag} {H : Hp} {r : Addr} (h : Row K H r) : LstAt H r := by
  obtain ⟨sc, ns, i, s, h, _⟩ := h
  exact ⟨_, h⟩
theorem Row.imm {K : PySem.W.Frag} {H H' : Hp} {r : Addr} (h : Row K H r) (e : Imm H H') (er : H' r = H r) : Row K H' r := by
  obtain ⟨sc, ns, i, s, h, hs, h0⟩ := h
  exact ⟨sc, ns, i, s, er.trans h, hs.imm e, h0⟩
theorem Row.same {K : PySem.W.Frag} {H H' : Hp} {r : Addr} (h : Row K H r) (e : Same H H') : Row K H' r := by
  obtain ⟨sc, ns, i, s, h, hs, h0⟩ := h
  exact ⟨sc, ns, i, s, e _ _ h, hs.imm (Imm.same e), h0⟩
theorem Row.upd {K : PySem.W.Frag} {H : Hp} {r D : Addr} {o : HO} (h : Row K H r) (l : LstAt H D) (n : D ≠ r) : Row K (upd H D o) r := h.imm (Imm.upd l) (upd_ne n.symm)
/-- what a draw promises -/
def spTaken (K : PySem.W.Frag) : Sp := fun vs H Q _ => ∃ (r : Addr) (m : Int), vs = [.ref r, .int m] ∧ Row K H r ∧ 0 < m ∧
  ∀ (x : Int) H', 0 ≤ x → x < m → SameX r H H' → Row K H' r → Q (.int x) H'
end St
namespace St
open PySem PySem.Spec PyProof.Rows L2
/-- the law's own guessers: within w others -/
def spGuesser (K : PySem.W.Frag) (n : Nat) : Sp := fun vs H Q _ => ∃ (r : Addr) (w : Nat), vs = [.ref r, .int (w : Int)] ∧ w < n ∧ Row K H r ∧
  ∀ (g : G) (v : V) H', SameX r H H' → Row K H' r → IsG K H' g v → good w g = true → Q v H'
theorem fn_zero {P : Program} {w : World} {K : PySem.W.Frag} {mg : Str → Option Value} {base : Heap} {CX : CXT} {k : Nat} {f : Addr} {fd : FuncData} {ps : List Str} {sp : Sp} (no : ∀ vs H Q E, ¬ sp vs H Q E) : FnOk P w K mg base CX k f fd ps sp :=
  ⟨fun vs H Q E h => absurd h (no vs H Q E), fun A outer s H args us vs Q E _ _ _ _ h => absurd h (no vs H Q E)⟩
theorem good_none (w : Nat) : good w (.leaf "none" []) = true := by unfold good; simp
theorem good_next {w : Nat} {n : Int} (h1 : 1 ≤ n) (h2 : n ≤ 3) : good w (.leaf "next" [n]) = true := by unfold good; simp [h1, h2]
theorem good_stride {w : Nat} {n : Int} (h1 : 1 ≤ n) (h2 : n ≤ 3) : good w (.leaf "stride" [n]) = true := by unfold good; simp [h1, h2]
theorem good_pairs {w : Nat} {n : Int} (h1 : 1 ≤ n) (h2 : n ≤ 2) : good w (.leaf "pairs" [n]) = true := by unfold good; simp [h1, h2]
end St
namespace St
open PySem PySem.Spec PyProof.Rows L2
theorem Row.nr {K : PySem.W.Frag} {H : Hp} {r p : Addr} (h : Row K H r) (np : H p = none) : p ≠ r := by
  obtain ⟨ys, hy⟩ := h.at_
  exact (ne_of_none hy np).symm
end St

/-! ### written dicts of numbers by texts -/
namespace St
open PySem PySem.Spec PyProof.Rows L2
def EntIs (p : Value × Value) (kv : Str × Int) : Prop := (∃ t, p.1 = .str kv.1 t) ∧ ∃ t, p.2 = .int kv.2 t
structure IDict (K : PySem.W.Frag) (w : World) (d : Addr) (kvs : List (Str × Int)) : Prop where
  ex : ∃ es n, KDict K w d es n ∧ Paired EntIs (es.toList.map fun e => (e.key, e.val)) kvs
theorem isStr_str (x z : Str) (t : Tok) : (Value.str x t).isStr z = (z == x) := by
  show (x == z) = (z == x)
  by_cases e : x = z
  · subst e; rfl
  · rw [beq_eq_false_iff_ne.mpr e, beq_eq_false_iff_ne.mpr (Ne.symm e)]
theorem find_ent (z : Str) : ∀ {es : List DictEntry} {kvs : List (Str × Int)}, Paired EntIs (es.map fun e => (e.key, e.val)) kvs →
    (kvs.lookup z = none ∧ es.find? (·.key.isStr z) = none ∧ es.any (·.refKey) = false) ∨ ∃ e n t, kvs.lookup z = some n ∧ es.find? (·.key.isStr z) = some e ∧ e.val = .int n t
  | [], [], .nil => .inl ⟨rfl, rfl, rfl⟩
  | e :: es, (k, n) :: kvs, .cons ⟨⟨t, h1⟩, ⟨t2, h2⟩⟩ r => by
    simp only at h1 h2
    by_cases c : z = k
    · subst c
      refine .inr ⟨e, n, t2, by simp [List.lookup], ?_, h2⟩
      rw [List.find?_cons, h1, isStr_str]
      simp
    · have c1 : (z == k) = false := beq_eq_false_iff_ne.mpr c
      rcases find_ent z r with ⟨a, b, d⟩ | ⟨e', n', t', a, b, d⟩
      · refine .inl ⟨by simp [List.lookup, c1, a], ?_, ?_⟩
        · rw [List.find?_cons, h1, isStr_str, c1]; exact b
        · rw [List.any_cons, d]
          have : e.refKey = false := by unfold DictEntry.refKey; rw [h1] <;> rfl
          rw [this]; rfl
      · refine .inr ⟨e', n', t', by simp [List.lookup, c1, a], ?_, d⟩
        rw [List.find?_cons, h1, isStr_str, c1]; exact b
theorem IDict.ns {K : PySem.W.Frag} {w : World} {d : Addr} {kvs : List (Str × Int)} (D : IDict K w d kvs) (z : Str) :
    (kvs.lookup z = none ∧ PySem.W.nsIn K d z = some none) ∨ ∃ n t, kvs.lookup z = some n ∧ PySem.W.nsIn K d z = some (some (.int n t)) := by
  obtain ⟨es, n, D, p⟩ := D.ex
  unfold PySem.W.nsIn
  rw [D.at_]
  rcases find_ent z p with ⟨a, b, c⟩ | ⟨e, n', t, a, b, c⟩
  · refine .inl ⟨a, ?_⟩
    simp only [b, c]
    rfl
  · refine .inr ⟨n', t, a, ?_⟩
    simp only [b, c]
section
variable {X : Cx} {d : Addr} {kvs : List (Str × Int)}
def rInI (d : Addr) (kvs : List (Str × Int)) : R2 := fun x y H Q => ∃ z, x = .str z ∧ y = .ref d ∧ Q (.bl (kvs.lookup z).isSome) H
def rNotInI (d : Addr) (kvs : List (Str × Int)) : R2 := fun x y H Q => ∃ z, x = .str z ∧ y = .ref d ∧ Q (.bl (!(kvs.lookup z).isSome)) H
def rIxI (d : Addr) (kvs : List (Str × Int)) : R2 := fun x y H Q => ∃ z n, x = .ref d ∧ y = .str z ∧ kvs.lookup z = some n ∧ Q (.int n) H
theorem op_in_id (D : IDict X.K X.w d kvs) : OpR X (compareOp .In) (rInI d kvs) := by
  obtain ⟨es, n, KD, _⟩ := D.ex
  intro pins s σ H x y v u Q I rx ry ⟨z, h1, h2, q⟩
  rcases D.ns z with ⟨a, b⟩ | ⟨m, t, a, b⟩
  · rw [a] at q
    exact op_in_kd KD pins s σ H x y v u Q I rx ry ⟨z, _, h1, h2, b, q⟩
  · rw [a] at q
    exact op_in_kd KD pins s σ H x y v u Q I rx ry ⟨z, _, h1, h2, b, q⟩
theorem op_notIn_id (D : IDict X.K X.w d kvs) : OpR X (compareOp .NotIn) (rNotInI d kvs) := by
  obtain ⟨es, n, KD, _⟩ := D.ex
  intro pins s σ H x y v u Q I rx ry ⟨z, h1, h2, q⟩
  rcases D.ns z with ⟨a, b⟩ | ⟨m, t, a, b⟩
  · rw [a] at q
    exact op_notIn_kd KD pins s σ H x y v u Q I rx ry ⟨z, _, h1, h2, b, q⟩
  · rw [a] at q
    exact op_notIn_kd KD pins s σ H x y v u Q I rx ry ⟨z, _, h1, h2, b, q⟩
theorem ix_id (D : IDict X.K X.w d kvs) : IxR X (rIxI d kvs) := by
  obtain ⟨es, nn, KD, _⟩ := D.ex
  intro value slice pins s σ H x y v u Q I rx ry ⟨z, m, h1, h2, h3, q⟩ hs
  rcases D.ns z with ⟨a, b⟩ | ⟨m', t, a, b⟩
  · rw [a] at h3; cases h3
  · rw [a] at h3; cases h3
    exact ix_kdict value slice pins s σ H x y v u Q I rx ry ⟨d, z, .int m, h1, h2, ⟨es, nn, _, KD.at_, KD.lit, b, ⟨t, rfl⟩⟩, q⟩ hs
end
theorem iteY {c A B : Prop} [Decidable c] (h : c) (a : A) : if c then A else B := by rw [if_pos h]; exact a
theorem iteN {c A B : Prop} [Decidable c] (h : ¬ c) (b : B) : if c then A else B := by rw [if_neg h]; exact b
theorem iteB {b : Bool} {A B : Prop} (e : b = true) (a : A) : if b = true then A else B := by rw [if_pos e]; exact a
theorem iteB0 {b : Bool} {A B : Prop} (e : b = false) (a : B) : if b = true then A else B := by rw [e, if_neg Bool.false_ne_true]; exact a
/-- the guessers' tables -/
structure Tab (K : PySem.W.Frag) (w : World) (mg : Str → Option Value) (dS dM : Addr) : Prop where
  g_SORTS : mg "SORTS" = some (.ref dS)
  i_SORTS : IDict K w dS sortsL
  g_MOST_OF : mg "MOST_OF" = some (.ref dM)
  i_MOST_OF : IDict K w dM mostL
  g_MOST_WITHIN : ∃ t, mg "MOST_WITHIN" = some (.int 3 t)
def spIs (K : PySem.W.Frag) (n : Nat) : Sp := fun vs H Q _ => ∃ (v : V) (g : G) (w : Nat), vs = [v, .int (w : Int)] ∧ IsG K H g v ∧ WfG g ∧ w ≤ 4 ∧ 5 ≤ w + n ∧ ∀ H', Same H H' → Q (.bl (isG w g)) H'
end St
namespace St
open PySem PySem.Spec PyProof.Rows L2
section
variable {X : Cx}
theorem pe_gref {x : Str} {a : Addr} {pos : Pos} (hg : Gl X x) (hm : X.mg x = some (.ref a)) (hd : (x == ("__debug__" : Str)) = false := by decide) : PE X (.Name x pos) (tC (.ref a)) := pe_glob hg hm (v := .ref a) rfl hd
theorem pe_gint {x : Str} {i : Int} {pos : Pos} (hg : Gl X x) (hm : ∃ t, X.mg x = some (.int i t)) (hd : (x == ("__debug__" : Str)) = false := by decide) : PE X (.Name x pos) (tC (.int i)) := by
  obtain ⟨t, hm⟩ := hm
  exact pe_glob hg hm (v := .int i) ⟨t, rfl⟩ hd
theorem pe_gstr {x : Str} {i : Str} {pos : Pos} (hg : Gl X x) (hm : ∃ t, X.mg x = some (.str i t)) (hd : (x == ("__debug__" : Str)) = false := by decide) : PE X (.Name x pos) (tC (.str i)) := by
  obtain ⟨t, hm⟩ := hm
  exact pe_glob hg hm (v := .str i) ⟨t, rfl⟩ hd
end
end St
namespace St
open PySem PySem.Spec PyProof.Rows L2
theorem sorts_cases {z : Str} {k : Int} (h : sortsL.lookup z = some k) : (z = "none" ∧ k = 1) ∨ (z = "next" ∧ k = 2) ∨ (z = "stride" ∧ k = 2) ∨ (z = "pairs" ∧ k = 2) ∨ (z = "both" ∧ k = 3) := by
  unfold sortsL at h
  simp only [List.lookup] at h
  repeat' split at h
  all_goals first | (cases h; done) | skip
  all_goals (rename_i e; have e' := eq_of_beq e; cases h; simp [e'])
theorem sorts_most {z : Str} {k : Int} (h : sortsL.lookup z = some k) (h1 : z ≠ ("none" : Str)) (h2 : z ≠ ("both" : Str)) : k = 2 ∧ ∃ m, mostL.lookup z = some m := by
  rcases sorts_cases h with ⟨e, _⟩ | ⟨rfl, e⟩ | ⟨rfl, e⟩ | ⟨rfl, e⟩ | ⟨e, _⟩
  · exact absurd e h1
  · exact ⟨e, 3, rfl⟩
  · exact ⟨e, 3, rfl⟩
  · exact ⟨e, 2, rfl⟩
  · exact absurd e h2
end St
/-! ### data of any depth -/
namespace St
open PySem PySem.Spec PyProof.Rows L2
theorem dmono {K : PySem.W.Frag} {H H' : Hp} (fL : ∀ a xs, SqL K H a xs → SqL K H' a xs) (fT : ∀ a xs, SqT K H a xs → SqT K H' a xs) {v : V} {d : PyData} (h : Dp K H v d) : Dp K H' v d := by
  refine Dp.rec (motive_1 := fun v d _ => Dp K H' v d) (motive_2 := fun vs ds _ => DpAll K H' vs ds) ?_ ?_ ?_ ?_ ?_ ?_ ?_ ?_ h
  · exact .non
  · exact fun b => .bl b
  · exact fun i => .int i
  · exact fun x => .str x
  · exact fun h _ ih => .lst (fL _ _ h) ih
  · exact fun h _ ih => .tup (fT _ _ h) ih
  · exact .nil
  · exact fun _ _ a b => .cons a b
theorem dsame {K : PySem.W.Frag} {H H' : Hp} {v : V} {d : PyData} (h : Dp K H v d) (e : Same H H') : Dp K H' v d := dmono (fun _ _ => same_l e) (fun _ _ => same_t e) h
theorem dsameA {K : PySem.W.Frag} {H H' : Hp} (e : Same H H') : ∀ {vs : List V} {ds : List PyData}, DpAll K H vs ds → DpAll K H' vs ds
  | _, _, .nil => .nil
  | _, _, .cons a b => .cons (dsame a e) (dsameA e b)
theorem dlen {K : PySem.W.Frag} {H : Hp} : ∀ {vs : List V} {ds : List PyData}, DpAll K H vs ds → vs.length = ds.length
  | _, _, .nil => rfl
  | _, _, .cons _ b => congrArg (· + 1) (dlen b)
theorem dat {K : PySem.W.Frag} {H : Hp} : ∀ {vs : List V} {ds : List PyData} {i : Nat} {d : PyData}, DpAll K H vs ds → ds[i]? = some d → ∃ v, vs[i]? = some v ∧ Dp K H v d
  | _, _, 0, _, .cons a _, e => ⟨_, rfl, by cases Option.some.inj e; exact a⟩
  | _, _, i + 1, _, .cons _ b, e => dat (i := i) b e
/-- how deep -/
def dep : Nat → PyData → Prop
  | 0, _ => False
  | n + 1, .list ds => ds.length ≤ 100000 ∧ ∀ d ∈ ds, dep n d
  | n + 1, .tuple ds => ds.length ≤ 100000 ∧ ∀ d ∈ ds, dep n d
  | _ + 1, _ => True
def spAlike (K : PySem.W.Frag) (n : Nat) : Sp := fun vs H Q _ => ∃ (v1 v2 : V) (d : PyData), vs = [v1, v2] ∧ Dp K H v1 d ∧ Dp K H v2 d ∧ dep n d ∧ ∀ H', Same H H' → Q (.bl true) H'
theorem tup_list {K : PySem.W.Frag} {T : String} (h : T = "tuple" ∨ T = "list") : PySem.W.kitAny K (.type T) [.type "tuple", .type "list"] = some true := by
  rcases h with rfl | rfl
  · exact kitAny_cons (kit_ty (r := true) (by decide +kernel)) (fun h => nomatch h) fun _ => rfl
  · exact kitAny_cons (kit_ty (r := false) (by decide +kernel)) (fun _ => kitAny_cons (kit_ty (r := true) (by decide +kernel)) (fun h => nomatch h) fun _ => rfl) fun h => nomatch h
end St
/-! ### rules for within a comprehension: the frag is told -/
namespace St
open PySem PySem.Spec PyProof.Rows L2
section
variable {X : Cx} {K : PySem.W.Frag}
theorem ix_listK (h : X.K = K := by rfl) : IxR X (rIxL K) := h ▸ ix_list
theorem ix_tupK (h : X.K = K := by rfl) : IxR X (rIxT K) := h ▸ ix_tup
theorem ix_seqK (h : X.K = K := by rfl) : IxR X (rIx K) := h ▸ ix_seq
def rLen (K : PySem.W.Frag) : List V → Hp → VK → Prop := fun xs H Q => ∃ p ys, xs = [.ref p] ∧ (SqL K H p ys ∨ SqT K H p ys) ∧ Q (.int ys.length) H
theorem call_lenK (h : X.K = K := by rfl) : CallR X (.builtin "len") (rLen K) := h ▸ call_len_seq
theorem in_seqK (h : X.K = K := by rfl) : OpR X (compareOp .In) (rIn K false) := h ▸ op_in_seq
theorem notIn_seqK (h : X.K = K := by rfl) : OpR X (compareOp .NotIn) (rIn K true) := h ▸ op_notIn_seq
end
end St

local macro_rules
  | `(tactic| infer_instance) => `(tactic| first
    | assumption
    | exact L2.upd_same
    | (refine St.same_upd (by assumption) _ _ ?_; infer_instance)
    | (refine (show L2.Same _ _ by assumption) _ _ ?_; infer_instance)
    | (refine (show St.SameX _ _ _ by assumption) _ _ (by assumption) ?_; infer_instance)
    | (refine Or.inl (Or.inl ?_); infer_instance))
local macro_rules
  | `(tactic| and_intros) => `(tactic| repeat (first
    | refine ⟨_, rfl, ?_⟩
    | refine ⟨rfl, ?_⟩
    | refine ⟨_, _, rfl, rfl, ?_⟩
    | refine ⟨_, _, _, _, rfl, rfl, (by infer_instance), (by first | rfl | exact L2.atI_nat (j := 0) rfl | exact L2.atI_nat (j := 1) rfl | exact L2.atI_nat (j := 2) rfl), ?_⟩
    | refine ⟨_, _, rfl, (by first | (refine Or.inl ?_; infer_instance) | (refine Or.inr ?_; infer_instance)), ?_⟩
    | refine ⟨_, _, rfl, (show L2.SqL _ _ _ _ by infer_instance), ?_⟩
    | refine ⟨_, _, _, _, true, rfl, L2.ClsV.ty _, (by assumption), L2.kit_ty (by decide +kernel), ?_⟩
    | refine ⟨_, _, _, _, false, rfl, L2.ClsV.ty _, (by assumption), L2.kit_ty (by decide +kernel), ?_⟩
    | refine And.intro (by first | decide | with_reducible exact St.sz_1 | with_reducible exact St.sz_2 | with_reducible exact St.sz_3 | with_reducible exact St.sz_4 | with_reducible exact St.sz_5 | with_reducible exact St.sz_6 | with_reducible exact St.sz_7 | with_reducible exact St.sz_8 | assumption | omega | (refine Or.inr ?_; decide) | (show (_ : Int) < _; first | decide | assumption | omega) | exact Or.inr ⟨by decide, by decide⟩ | exact ⟨by decide, by decide⟩) ?_))
local macro_rules
  | `(tactic| ac_rfl) => `(tactic| first
    | assumption
    | exact L2.Same.refl _
    | exact St.SameX.refl _ _
    | (refine L2.Same.trans ?_ (St.same_upd (by assumption)); ac_rfl)
    | (refine St.SameX.trans ?_ (St.SameX.of (St.same_upd (by assumption))); ac_rfl)
    | (refine L2.Same.trans ?_ (show L2.Same _ _ by assumption); ac_rfl)
    | (refine St.SameX.trans ?_ (St.SameX.of (show L2.Same _ _ by assumption)); ac_rfl)
    | (refine St.SameX.trans ?_ (show St.SameX _ _ _ by assumption); ac_rfl))

namespace St
open PySem PySem.Spec PyProof.Rows L2
def topS (i : Nat) : Stmt := PySem.Challenge.pw_stridewell_k01_settings_and_guessers_ref.main.body.getD i (.Pass ⟨0, 0, 0, 0⟩)
end St

namespace St
open PySem PySem.Spec PyProof.Rows L2
abbrev s__law_taken : Stmt := topS 60
abbrev N__law_taken : List Str := ["_law_row", "_law_many", "_law_cell"]
abbrev p__law_taken : List Str := ["_law_row", "_law_many"]
theorem sc__law_taken : FnScope N__law_taken p__law_taken (defScope s__law_taken) := ⟨rfl, rfl, rfl, by decide +kernel, rfl, by decide +kernel, by decide +kernel⟩
section
variable {P : Program} {w : World} {K : PySem.W.Frag} {mg : Str → Option Value} {base : Heap} {f : Addr} {fd : FuncData}
theorem ok__law_taken (F : Fun K "_law_taken" "_law_taken" s__law_taken f fd) (T : Nms mg) : FnOk P w K mg base CX0 1 f fd p__law_taken (spTaken K) := by
  refine F.ok sc__law_taken (fun vs H Q E h => ?_) (fun cdv A outer s H vs Q E hr h => ?_)
  · obtain ⟨r, m, rfl, _⟩ := h
    rfl
  obtain ⟨r, m, rfl, ⟨sc, ns, i, s, hr0, hs, h0⟩, hm, q⟩ := h
  refine ⟨_, (pss_cons (ps_asg (pe_op op_add (pe_ix ix_list (pv 0) pe_int (fun _ _ => rfl)) pe_int) (pg_sub (pv 0) pe_int set_list))
  (pss_cons (ps_if (pt_cmpR op_gt (pe_ix ix_list (pv 0) pe_int (fun _ _ => rfl)) (pe_callB call_len_seq (by rfl) T.n_len (by decide +kernel) (pa_cons (pe_ix ix_list (pv 0) pe_int (fun _ _ => rfl)) pa_nil)) (nomark _))
    (pss_cons (ps_asg (pe_op op_mod (pe_op op_add (pe_op op_mul (pe_ix ix_list (pv 0) pe_int (fun _ _ => rfl)) pe_int) pe_int) pe_int) (pg_sub (pv 0) pe_int set_list))
    (pss_one (ps_ret (pe_op op_mod (pe_op op_fdiv (pe_ix ix_list (pv 0) pe_int (fun _ _ => rfl)) pe_int) (pv 1)))))
    (pss_nil))
  (pss_cons (ps_set (i := 2) sc__law_taken.nd rfl (Or.inl rfl) (pe_ix ix_list (pe_ix ix_list (pv 0) pe_int (fun _ _ => rfl)) (pe_op op_sub (pe_ix ix_list (pv 0) pe_int (fun _ _ => rfl)) pe_int) (fun _ _ => rfl)))
  (pss_cons (ps_asg (pe_op op_mod (pe_op op_add (pe_op op_add (pe_op op_mul (pe_ix ix_list (pv 0) pe_int (fun _ _ => rfl)) pe_int) (pv 2)) pe_int) pe_int) (pg_sub (pv 0) pe_int set_list))
  (pss_one (ps_ret (pe_op op_mod (pv 2) (pv 1)))))))), ?_⟩
  have hR : SqL K H r [.ref sc, .int i, .int s] := sql hr0
  have ne : ∀ {o : HO}, Sc K (upd H r o) sc (ns.map V.int) := fun {o} => hs.imm (Imm.upd ⟨_, hr0⟩)
  have fin : ∀ (x s' : Int) (o : HO), 0 ≤ x → x < m → Q (.int x) (upd (upd H r o) r (.lst [.ref sc, .int (i + 1), .int s'])) := fun x s' o h1 h2 => by
    rw [upd_upd]
    exact q x _ h1 h2 SameX.upd ⟨sc, ns, i + 1, s', upd_same, ne, by omega⟩
  and_intros
  have hsc : SqL K (upd H r (.lst [.ref sc, .int (i + 1), .int s])) sc (ns.map V.int) := ne.sql
  and_intros
  refine ite2 (fun c => ?_) (fun c => ?_)
  · and_intros
    exact fin _ _ _ (Int.emod_nonneg _ (by omega)) (Int.emod_lt_of_pos _ hm)
  · have c' : ¬ (((ns.map V.int).length : Nat) : Int) < i + 1 := of_decide_eq_false (Bool.eq_false_iff.mpr c)
    rw [List.length_map] at c'
    and_intros
    have hat : atI (ns.map V.int) (i + 1 - 1) = some (.int (ns[i.toNat]'(by omega))) := by
      have e : i + 1 - 1 = ((i.toNat : Nat) : Int) := by omega
      rw [e]
      refine atI_nat ?_
      rw [List.getElem?_map, List.getElem?_eq_getElem (by omega)]
      rfl
    refine ⟨_, _, _, _, rfl, rfl, hsc, hat, ?_⟩
    and_intros
    exact fin _ _ _ (Int.emod_nonneg _ (by omega)) (Int.emod_lt_of_pos _ hm)
end
end St

namespace St
open PySem PySem.Spec PyProof.Rows L2
theorem eqV_int (a b : Int) : eqV (.int a) (.int b) = decide (a = b) := by
  show (a == b) = _
  exact Bool.beq_eq_decide_eq ..
theorem inV_ints (g : Int) : ∀ l : List Int, inV (.int g) (l.map V.int) = decide (g ∈ l)
  | [] => by simp [inV]
  | a :: r => by
    have ih := inV_ints g r
    unfold inV at ih ⊢
    rw [List.map_cons, List.any_cons, ih, eqV_int]
    by_cases c : a = g
    · subst c; simp
    · by_cases d : g ∈ r
      · simp [c, d]
      · simp [c, d, Ne.symm c]
theorem flat_ints : ∀ l : List Int, (l.map V.int).all flatV = true
  | [] => rfl
  | _ :: r => by rw [List.map_cons, List.all_cons, flat_ints r]; rfl
theorem at_ints {l : List Int} {i : Nat} {y : V} (h : (l.map V.int)[i]? = some y) : ∃ x, y = .int x ∧ l[i]? = some x ∧ l.take (i + 1) = l.take i ++ [x] := by
  rw [List.getElem?_map] at h
  cases e : l[i]? with
  | none => rw [e] at h; cases h
  | some m =>
    rw [e] at h
    cases Option.some.inj h
    exact ⟨m, rfl, rfl, by rw [List.take_add_one, e]; rfl⟩
theorem filter_snoc {α : Type} (f : α → Bool) (l : List α) (x : α) : (l ++ [x]).filter f = l.filter f ++ if f x then [x] else [] := by
  rw [List.filter_append, List.filter_cons]
  split <;> simp
theorem samex_mut {r : Addr} {H H' : Hp} {p : Addr} {o : HO} (e : SameX r H H') (h : H p = none) : SameX r H (upd H' p o) := fun a u n ha => by
  rw [upd_ne (ne_of_none ha h)]
  exact e a u n ha
theorem dp_ints {K : PySem.W.Frag} {H : Hp} {p : Addr} {ns : List Int} (h : SqL K H p (ns.map V.int)) : Dp K H (.ref p) (.list (ns.map PyData.int)) := by
  refine .lst h ?_
  have : ∀ l : List Int, DpAll K H (l.map V.int) (l.map PyData.int) := by
    intro l
    induction l with
    | nil => exact .nil
    | cons a r ih => exact .cons (.int a) ih
  exact this ns
theorem lay_ints (ns : List Int) : SeqAt.shaped (.list (ns.map PyData.int)) = true := by
  have h1 : ∀ l : List Int, PyData.depthAll (l.map PyData.int) = 0 := by
    intro l
    induction l with
    | nil => rfl
    | cons a r ih => simp [PyData.depthAll, PyData.depth, ih]
  have h2 : ∀ l : List Int, PyData.canLayAll0 (l.map PyData.int) = true := by
    intro l
    induction l with
    | nil => rfl
    | cons a r ih => simp [PyData.canLayAll0, PyData.canLay0, ih]
  unfold SeqAt.shaped
  rw [Bool.and_eq_true]
  refine ⟨?_, decide_eq_true ?_⟩
  · simp only [PyData.canLay0]
    exact h2 ns
  · simp only [PyData.depth]
    rw [h1 ns]
    decide
theorem eqv_ints (a b : List Int) : PyData.eqv (.list (a.map PyData.int)) (.list (b.map PyData.int)) = decide (a = b) := by
  simp only [PyData.eqv]
  induction a generalizing b with
  | nil =>
    cases b with
    | nil => simp [PyData.eqvAll]
    | cons y ys => simp [PyData.eqvAll]
  | cons x xs ih =>
    cases b with
    | nil => simp [PyData.eqvAll]
    | cons y ys =>
      simp only [List.map_cons, PyData.eqvAll, PyData.eqv, ih ys, Bool.beq_eq_decide_eq]
      by_cases c : x = y
      · subst c; simp
      · simp [c]
theorem atI_ints {ns : List Int} {x : Int} (h0 : 0 ≤ x) (h1 : x < (ns.length : Nat)) : ∃ y, atI (ns.map V.int) x = some (.int y) ∧ ns[x.toNat]? = some y := by
  obtain ⟨k, rfl⟩ : ∃ k : Nat, x = (k : Int) := ⟨x.toNat, by omega⟩
  have hk : k < ns.length := by omega
  exact ⟨ns[k], atI_nat (by rw [List.getElem?_map, List.getElem?_eq_getElem hk]; rfl), by rw [Int.toNat_natCast, List.getElem?_eq_getElem hk]⟩
theorem cut_to {xs : List V} {k : Int} (h : 0 ≤ k) : cutV xs none (some k) = xs.take k.toNat := by
  obtain ⟨m, rfl⟩ : ∃ m : Nat, k = (m : Int) := ⟨k.toNat, by omega⟩
  unfold cutV
  rw [HT.sIx_none, HT.sIx_nat, List.drop_zero, Int.toNat_natCast]
  by_cases c : m ≤ xs.length
  · rw [Nat.min_eq_left c]; rfl
  · rw [Nat.min_eq_right (by omega), List.take_of_length_le (by omega), List.take_of_length_le (by omega)]
theorem cut_from {xs : List V} {k : Int} (h : 0 ≤ k) : cutV xs (some k) none = xs.drop k.toNat := by
  obtain ⟨m, rfl⟩ : ∃ m : Nat, k = (m : Int) := ⟨k.toNat, by omega⟩
  unfold cutV
  rw [HT.sIx_none, HT.sIx_nat, Int.toNat_natCast]
  by_cases c : m ≤ xs.length
  · rw [Nat.min_eq_left c, List.take_of_length_le (by rw [List.length_drop]; exact Nat.le_refl _)]
  · rw [Nat.min_eq_right (by omega), List.drop_of_length_le (Nat.le_refl _), List.drop_of_length_le (by omega), List.take_nil]
theorem at_last {ps : List Int} {p : Int} (h : ps.getLast? = some p) : atI (ps.map V.int) (-1) = some (.int p) := by
  have hp : ps ≠ [] := by rintro rfl; cases h
  have hl : 0 < ps.length := List.length_pos_iff.mpr hp
  unfold atI ixN
  rw [List.length_map, if_neg (by decide), if_pos (by omega)]
  show (ps.map V.int)[_]? = _
  rw [List.getElem?_map]
  have e : (-1 + (ps.length : Int)).toNat = ps.length - 1 := by omega
  rw [List.getLast?_eq_getElem?] at h
  rw [show ps[_]? = ps[ps.length - 1]? from congrArg (fun z => ps[z]?) (by omega), h]
  rfl
theorem at_ps {ps : List Int} {i : Nat} {z : Int} (e : z = (i : Int)) (h : i < ps.length) : atI (ps.map V.int) z = some (.int (ps.getD i 0)) := by
  subst e
  refine atI_nat ?_
  rw [List.getElem?_map, List.getD_eq_getElem?_getD, List.getElem?_eq_getElem h]
  rfl
theorem flat_rep (x : Int) : ∀ k : Nat, (List.replicate k [V.int x]).flatten = (List.replicate k x).map V.int
  | 0 => rfl
  | k + 1 => by rw [List.replicate_succ, List.flatten_cons, flat_rep x k, List.replicate_succ]; rfl
theorem sl_listK {X : Cx} {K : PySem.W.Frag} (h : X.K = K := by rfl) : SlR X (rSlL K) := h ▸ sl_list
theorem paired_r {α β : Type} {F : α → β → Prop} : ∀ {l₁ : List α} {l₂ : List β}, Paired F l₁ l₂ → ∀ b ∈ l₂, ∃ a, F a b
  | _, _, .nil, _, hb => nomatch hb
  | _, _, .cons h t, b, hb => by
    rcases List.mem_cons.mp hb with rfl | hb
    · exact ⟨_, h⟩
    · exact paired_r t b hb
theorem paired_l {α β : Type} {F : α → β → Prop} : ∀ {l₁ : List α} {l₂ : List β}, Paired F l₁ l₂ → ∀ a ∈ l₁, ∃ b, F a b
  | _, _, .nil, _, hb => nomatch hb
  | _, _, .cons h t, b, hb => by
    rcases List.mem_cons.mp hb with rfl | hb
    · exact ⟨_, h⟩
    · exact paired_l t b hb
theorem neD_K {X : Cx} {K : PySem.W.Frag} (hu : X.A.units + 64 < cLine) (h : X.K = K := by rfl) : OpR X (compareOp .NotEq) (rNeD K) := h ▸ op_neD hu
theorem eqD_K {X : Cx} {K : PySem.W.Frag} (hu : X.A.units + 64 < cLine) (h : X.K = K := by rfl) : OpR X (compareOp .Eq) (rEqD K) := h ▸ op_eqD hu
end St

namespace St
open PySem PySem.Spec PyProof.Rows L2
section
variable {X : Cx} {es : List Expr} {t : TA} {pos : Pos}
/-- a tuple's display; its object bears no dict -/
def tTupF (t : TA) : TE := fun σ H Q => t σ H fun xs H1 => xs.length ≤ sizeLine ∧ ∀ p (o : Obj), H1 p = none → o.dict = none → Q (.ref p) (upd H1 p (.frz o (.tup xs)))
theorem pe_tupF {x1} (h : PA X es t) : PE X (.Tuple es x1 pos) (tTupF t) := by
  refine ⟨fun pins s σ H Q I hq => wpAny_Tuple_spliced (thn (h.run pos pins s σ H _ I hq) fun us s1 hz => ?_)⟩
  obtain ⟨xs, H1, I1, r, z, q⟩ := hz
  refine ⟨by rw [← r.length]; exact z, ?_⟩
  have new : (s1.heap.push { cls := .type "tuple", data := .seq us.toArray }).get? s1.heap.objs.size = some { cls := .type "tuple", data := .seq us.toArray } := Heap.get?_push_size _ rfl
  exact ⟨.ref s1.heap.objs.size, _, I1.laid (t' := s1.toks) (o := .frz { cls := .type "tuple", data := .seq us.toArray } (.tup xs)) (fun b u e => Heap.get?_push_of_some _ e) (Nat.le_refl _) ⟨new, z, us, r, _, new, rfl, _, rfl⟩, rfl, q _ _ (I1.hok.fresh (Nat.le_refl _)) rfl⟩
/-- tuple(xs) of a list; its object bears no dict -/
def rTupF (K : PySem.W.Frag) : List V → Hp → VK → Prop := fun xs H Q => ∃ p ys, xs = [.ref p] ∧ SqL K H p ys ∧ ∀ l (o : Obj), H l = none → o.dict = none → Q (.ref l) (upd H l (.frz o (.tup ys)))
theorem call_tupF : CallR X (.type "tuple") (rTupF X.K) := by
  intro pins s σ H xs us Q I r h
  obtain ⟨p, ys, rfl, hq, q⟩ := h
  obtain ⟨u, rfl, rx⟩ := vals1 r
  cases rx
  obtain ⟨its, r', pl, hz⟩ := I.list hq
  have hl := r'.length
  refine call_tuple_list pl.isList (fun h' kp => ?_) (by simp only [List.size_toArray] <;> omega)
  have I1 : Inv X pins σ H { s with heap := h' } := I.kept (t' := s.toks) kp
  have new : (h'.push { cls := .type "tuple", data := .seq its.toArray }).get? h'.objs.size = some { cls := .type "tuple", data := .seq its.toArray } := Heap.get?_push_size _ rfl
  exact ⟨.ref h'.objs.size, _, I1.laid (t' := s.toks) (o := .frz { cls := .type "tuple", data := .seq its.toArray } (.tup ys)) (fun b o e => Heap.get?_push_of_some _ e) (Nat.le_refl _) ⟨new, hz, its, r', _, new, rfl, _, rfl⟩, rfl, q _ _ (I1.hok.fresh (Nat.le_refl _)) rfl⟩
/-! ### dict(t), t a tuple of pairs -/
theorem pairs_tab {pins : List (Addr × Obj)} {σ : L2.St} {H : Hp} {s : Shared} (I : L2.Inv X pins σ H s) : ∀ {ps : List Addr} {kvs : List (Key × V)}, Paired (fun p kv => SqT X.K H p [kV kv.1, kv.2]) ps kvs →
    ∃ (prs : List (Key × Value)) (us : List Value), KV kvs prs ∧ prs.length = ps.length ∧ us.length = ps.length ∧ ∀ (j : Nat) (q : Key × Value) (b : Addr) (u : Value), prs[j]? = some q → ps[j]? = some b → us[j]? = some u → IsTup s.heap b #[u, q.2] ∧ keyIs q.1 u = true
  | _, _, .nil => ⟨[], [], .nil, rfl, rfl, fun j q b u e => by simp at e⟩
  | _, _, .cons (a := p) (b := kv) h t => by
    obtain ⟨prs, us, r, h1, h2, h3⟩ := pairs_tab I t
    obtain ⟨its, rv, ht, _⟩ := I.tuple h
    obtain ⟨u, y, ei, ru, ry⟩ := vals2 rv
    subst ei
    refine ⟨(kv.1, y) :: prs, u :: us, .cons ⟨rfl, ry⟩ r, congrArg (· + 1) h1, congrArg (· + 1) h2, fun j q b u' e1 e2 e3 => ?_⟩
    cases j with
    | zero =>
      cases Option.some.inj e1
      cases Option.some.inj e2
      cases Option.some.inj e3
      exact ⟨ht, kV_is (P := X.prog) (w := X.w) ru⟩
    | succ j => exact h3 j q b u' e1 e2 e3
def rDictT (K : PySem.W.Frag) : List V → Hp → VK → Prop := fun xs H Q => ∃ (a : Addr) (o : Obj) (ps : List Addr) (kvs : List (Key × V)), xs = [.ref a] ∧ H a = some (.frz o (.tup (ps.map V.ref))) ∧ o.dict = none ∧ Paired (fun p kv => SqT K H p [kV kv.1, kv.2]) ps kvs ∧
  ∀ p, H p = none → Q (.ref p) (upd H p (.dK (mergeK [] kvs)))
theorem call_dictT (hcalm : X.calm = true) : CallR X (.type "dict") (rDictT X.K) := by
  intro pins s σ H xs us Q I r h
  obtain ⟨a, o, ps, kvs, rfl, ha, hd, hp, q⟩ := h
  obtain ⟨u, rfl, rx⟩ := vals1 r
  cases rx
  obtain ⟨ho, hz, its, rv, o', ho', hc, n, hdat⟩ := (show ObjOk X.prog X.w H s.heap a (.frz o (.tup (ps.map V.ref))) from I.hok a _ ha)
  have eo : o' = o := Option.some.inj (ho'.symm.trans ho)
  subst eo
  have ei := refs_at rv
  subst ei
  rw [List.length_map] at hz
  obtain ⟨prs, ks, rel, l1, l2, l3⟩ := pairs_tab I hp
  have lz : (ks.zip (prs.map (·.2))).length = ps.length := by rw [List.length_zip, List.length_map, l1, l2, Nat.min_self]
  have PI : PairItems s.heap (ps.map Value.ref).toArray (fun j => ps.getD j 0) (ks.zip (prs.map (·.2))) := by
    refine ⟨by rw [lz]; simp, fun j k v e => ?_⟩
    obtain ⟨e1, e2⟩ := List.getElem?_zip_eq_some.mp e
    have hj : j < ps.length := by
      rw [← l2]
      exact (List.getElem?_eq_some_iff.mp e1).1
    have e3 : ps[j]? = some (ps.getD j 0) := by rw [List.getD_eq_getElem?_getD, List.getElem?_eq_getElem hj]; rfl
    rw [List.getElem?_map] at e2
    cases e4 : prs[j]? with
    | none => rw [e4] at e2; cases e2
    | some p =>
      rw [e4] at e2
      cases Option.some.inj e2
      refine ⟨by rw [List.getElem?_toArray, List.getElem?_map, e3]; rfl, .inl ?_⟩
      exact (l3 j p _ k e4 e3 e1).1
  refine _root_.PySem.call_dict_pairs (A := X.A) (knd := mixKind X.prog X.w) (kvs := prs) (PairArg.tuple a (ps.map Value.ref).toArray (fun j => ps.getD j 0) (ks.zip (prs.map (·.2)))) (I.ok.hd hcalm) ⟨⟨o', n, ho, hc, hd, hdat⟩, PI⟩ ⟨by rw [lz, l1], fun i key v e => ?_⟩ (by rw [lz]; exact hz) fun h' tk hd' k => ?_
  · obtain ⟨e1, e2⟩ := List.getElem?_zip_eq_some.mp (show (ks.zip (prs.map (·.2)))[i]? = some (key, v) from e)
    have hj : i < ps.length := by
      rw [← l2]
      exact (List.getElem?_eq_some_iff.mp e1).1
    rw [List.getElem?_map] at e2
    cases e4 : prs[i]? with
    | none => rw [e4] at e2; cases e2
    | some p =>
      rw [e4] at e2
      cases Option.some.inj e2
      exact ⟨p.1, rfl, (l3 i p _ key e4 (List.getElem?_eq_getElem hj) e1).2⟩
  · have big : (s.heap.objs.size == sysModules) = false := beq_eq_false_iff_ne.mpr (Nat.ne_of_gt I.big)
    have hl : (mergeK [] kvs).length ≤ sizeLine := by
      have z := length_mergeK kvs []
      rw [List.length_nil, Nat.zero_add, rel.length, l1] at z
      exact Nat.le_trans z hz
    exact ⟨.ref s.heap.objs.size, _, I.laid (t' := tk) (o := .dK (mergeK [] kvs)) (fun b o e => k b o (fun z => nomatch z) e) (Nat.le_refl _) ⟨hl, big, merged [] prs, KV.merge rel .nil, hd'⟩, rfl, q _ (I.hok.fresh (Nat.le_refl _))⟩
end
end St

/-! ### d.items(), sorted of them: keys ints, all unlike -/
namespace St
open PySem PySem.Spec PyProof.Rows L2
theorem pairs_get {P : Program} {w : World} : ∀ {es : List DictEntry} {vs : List (Key × Value)} {j : Nat} {e : DictEntry}, Pairs (mixKind P w) es vs → es[j]? = some e → ∃ kv, vs[j]? = some kv ∧ keyIs kv.1 e.key = true ∧ e.val = kv.2
  | _, _, j, e, .nil, h => by simp at h
  | _, _, 0, e, .cons h1 h2 _, h => by cases Option.some.inj h; exact ⟨_, rfl, h1, h2⟩
  | _, _, j + 1, e, .cons _ _ r, h => pairs_get (j := j) r h
theorem kv_get : ∀ {kvs : List (Key × V)} {vs : List (Key × Value)} {j : Nat} {q : Key × Value}, KV kvs vs → vs[j]? = some q → ∃ p, kvs[j]? = some p ∧ p.1 = q.1 ∧ RelV p.2 q.2
  | _, _, j, q, .nil, h => by simp at h
  | _, _, 0, q, .cons h1 _, h => by cases Option.some.inj h; exact ⟨_, rfl, h1.1, h1.2⟩
  | _, _, j + 1, q, .cons _ r, h => kv_get (j := j) r h
def rItemsK : V → List V → Hp → VK → Prop := fun x xs H Q => ∃ (a : Addr) (kvs : List (Key × V)), x = .ref a ∧ xs = [] ∧ H a = some (.dK kvs) ∧ ∀ p, H p = none → Q (.ref p) (upd H p (DX.itemsO p a))
section
variable {X : Cx}
theorem mt_itemsK : MtR X "dict.items" rItemsK := by
  intro pins s σ H x xs v us Q I rx rxs h
  obtain ⟨a, kvs, rfl, rfl, ha, q⟩ := h
  cases rx
  cases rxs
  obtain ⟨z, hd, vs, rel, o, es, ep, ho, hx, hdat, _⟩ := dk_of I.hok ha
  refine DT.callItems (es := es) (ep := ep) hd ⟨o, ho, hx, hdat⟩ ?_
  exact ⟨.ref s.heap.objs.size, _, I.laid (t' := s.toks) (o := DX.itemsO s.heap.objs.size a) (fun b u e => Heap.get?_push_of_some _ e) (Nat.le_refl _) (DX.itemsO_ok (Heap.get?_push_size _ rfl)), rfl, q _ (I.hok.fresh (Nat.le_refl _))⟩
end
/-! the order of pairs whose first items are ints, all unlike -/
def intOf : Option Value → Int
  | some (.int i _) => i
  | _ => 0
/-- the first int of the pair v, read off the heap -/
def fst1 (h : Heap) (v : Value) : Int := intOf (DT.seqAt0 h (DT.refOf (some v)))
/-- v is a pair (k, y) -/
def PairK (h : Heap) (v : Value) (k : Int) (y : Value) : Prop := ∃ (a : Addr) (t : Tok), v = .ref a ∧ IsTup h a #[.int k t, y]
theorem PairK.fst {h : Heap} {v : Value} {k : Int} {y : Value} (x : PairK h v k y) : fst1 h v = k := by
  obtain ⟨a, t, rfl, p⟩ := x
  show intOf (DT.seqAt0 h a) = k
  rw [DT.seqAt0_of p]
  rfl
theorem PairK.keeps {h h' : Heap} {v : Value} {k : Int} {y : Value} (x : PairK h v k y) (f : ∀ b o, h.get? b = some o → o.cls = .type "tuple" → h'.get? b = some o) : PairK h' v k y := by
  obtain ⟨a, t, e, o, ho, hc, r⟩ := x
  exact ⟨a, t, e, o, f _ _ ho hc, hc, r⟩
section
variable {prog : Program} {w : World} {A : Around} {E : Value → Shared → Prop} {s : Shared}
theorem eqBool_self {v : Value} {Q : Bool → Shared → Prop} (h : Q true s) : wpAny (model prog w) A (eqBool v v) Q E s := by
  unfold eqBool
  refine wpAny_holding ?_
  rw [if_pos (beq_self_eq_true v)]
  exact wpAny_bind (wpAny_rule (wpAny_pure h))
theorem swo_fst (k : Value → Int) : SrtO.Swo fun v u => decide (k v < k u) := by
  refine ⟨fun x y h => ?_, fun x y z h1 h2 => ?_⟩
  · have a := of_decide_eq_true h
    exact decide_eq_false (by omega)
  · have a := of_decide_eq_false h1
    have b := of_decide_eq_false h2
    exact decide_eq_false (by omega)
theorem firsts_K {h : Heap} : ∀ vs : List Value, (∀ v ∈ vs, ∃ k y, PairK h v k y) → ∃ fs : List Value, PySem.W.KatTups h vs fs ∧ fs.length = vs.length ∧ ∀ f ∈ fs, ∃ i t, f = Value.int i t
  | [], _ => ⟨[], PySem.W.KatTups.nil, rfl, fun f hf => by simp at hf⟩
  | v :: vs, x => by
    obtain ⟨fs, k, hl, hi⟩ := firsts_K vs fun u hu => x u (List.mem_cons_of_mem _ hu)
    obtain ⟨i, y, a, t, rfl, o, ho, hc, n, hd⟩ := x v (List.mem_cons_self ..)
    refine ⟨.int i t :: fs, PySem.W.KatTups.cons ho hc hd rfl k, congrArg (· + 1) hl, fun f hf => ?_⟩
    rcases List.mem_cons.mp hf with rfl | hf
    · exact ⟨i, t, rfl⟩
    · exact hi f hf
/-- any two of them compare by their first items; the very same one with itself -/
theorem cmp_K {vs : List Value} (hp : ∀ v ∈ vs, ∃ k y, PairK s.heap v k y) (hu : ∀ v ∈ vs, ∀ u ∈ vs, fst1 s.heap v = fst1 s.heap u → v = u) :
    SrtO.Cmp prog w A s (tuples' true) (fun p => p.1 ∈ vs) (SrtO.lt2 fun v u => decide (fst1 s.heap v < fst1 s.heap u)) := by
  intro p q hm hm'
  obtain ⟨k1, y1, h1⟩ := hp _ hm
  obtain ⟨k2, y2, h2⟩ := hp _ hm'
  have f1 := h1.fst
  have f2 := h2.fst
  have hu' := hu _ hm _ hm'
  show wpAny (model prog w) A (keyLt' (tuples' true) p.1 q.1) (fun r s' => s' = s ∧ r = decide (fst1 s.heap p.1 < fst1 s.heap q.1)) (fun _ _ => False) s
  obtain ⟨a, t, e, o, ho, hc, n, hd⟩ := h1
  obtain ⟨a', t', e', o', ho', hc', n', hd'⟩ := h2
  rw [f1, f2] at hu' ⊢
  rw [e, e']
  refine PySem.W.kat_lt ho hd ho' hd' ?_
  show PySem.W.KatLex prog w A true false _ [(.int k1 t, .int k2 t'), (y1, y2)] 0 s
  refine PySem.W.kat_cons (SeqAt.EqAt.int_int k1 t k2 t' prog w _ _ ?_)
  refine PySem.W.kat_go (fun e1 => ?_) (fun e1 => ?_)
  · have ek : k1 = k2 := by simpa using e1
    have ea : a = a' := by
      have z := hu' ek
      rw [e, e'] at z
      exact Value.ref.inj z
    subst ea
    have eo : o = o' := Option.some.inj (ho.symm.trans ho')
    subst eo
    have ed := hd.symm.trans hd'
    injection ed with ed _
    have ey : y1 = y2 := by
      have z := congrArg Array.toList ed
      simp at z
      exact z.2
    subst ey
    refine PySem.W.kat_yes (PySem.W.kat_cons (eqBool_self ?_))
    refine PySem.W.kat_yes (PySem.W.kat_nil ⟨rfl, ?_⟩)
    exact (decide_eq_false (by omega)).symm
  · exact PySem.W.kat_no (PyProof.Rows.oneLt_int ⟨rfl, rfl⟩)
theorem sortable_K {a : Addr} {vs : List Value} (h0 : 0 < vs.length) (hp : ∀ v ∈ vs, ∃ k y, PairK s.heap v k y) (hu : ∀ v ∈ vs, ∀ u ∈ vs, fst1 s.heap v = fst1 s.heap u → v = u) (ha : ∀ o, s.heap.get? a = some o → o.cls ≠ .type "tuple") :
    SrtO.SortableO prog w A s a vs fun v u => decide (fst1 s.heap v < fst1 s.heap u) := by
  intro h' keep
  have kp : ∀ b o, s.heap.get? b = some o → o.cls = .type "tuple" → h'.get? b = some o := fun b o e c => keep b o (fun z => by subst z; exact ha o e c) e
  have hp' : ∀ v ∈ vs, ∃ k y, PairK h' v k y := fun v hm => let ⟨k, y, x⟩ := hp v hm; ⟨k, y, x.keeps kp⟩
  have same : ∀ v ∈ vs, fst1 h' v = fst1 s.heap v := fun v hm => by
    obtain ⟨k, y, x⟩ := hp v hm
    rw [x.fst, (x.keeps kp).fst]
  obtain ⟨fs, h1, h2, h3⟩ := firsts_K vs hp'
  refine ⟨tuples' true, fun Q E hq => ?_, fun p q hm hm' => ?_⟩
  · refine PySem.W.kat_kind (T := .type "int") h1 (by omega) (fun f hm => ?_) (by rfl) ?_
    · obtain ⟨x, t, rfl⟩ := h3 f hm
      exact PySem.W.Looks.now
    · have e : (Value.type "int" != Value.type "tuple") = true := by first | decide +kernel | rfl | decide
      rw [e]
      exact hq
  · have c := cmp_K (prog := prog) (w := w) (A := A) (s := { s with heap := h' }) hp' (fun v hv u hw e => hu v hv u hw (by rw [← same v hv, ← same u hw]; exact e)) p q hm hm'
    have e : (SrtO.lt2 fun v u => decide (fst1 s.heap v < fst1 s.heap u)) p q = (SrtO.lt2 fun v u => decide (fst1 h' v < fst1 h' u)) p q := by
      show decide (fst1 s.heap p.1 < fst1 s.heap q.1) = decide (fst1 h' p.1 < fst1 h' q.1)
      rw [same _ hm, same _ hm']
    rw [e]
    exact c
end
end St

namespace St
open PySem PySem.Spec PyProof.Rows L2
def rSortItK : List V → Hp → VK → Prop := fun vs H Q => ∃ (p a : Addr) (ks : List (Int × V)), vs = [.ref p] ∧ H p = some (DX.itemsO p a) ∧ H a = some (.dK (ks.map fun e => (Sum.inl e.1, e.2))) ∧ (ks.map (·.1)).Nodup ∧
  ∀ (H' : Hp) (l : Addr) (ps : List (Addr × Int × V)), Same H H' → H l = none → (ps.map (·.2)).Perm ks → (ps.map (·.2.1)).Pairwise (· < ·) → H' l = some (.lst (ps.map fun z => V.ref z.1)) → (∀ z ∈ ps, H' z.1 = some (.tup [.int z.2.1, z.2.2])) → Q (.ref l) H'
theorem map_zip1 {α β γ : Type} (f : α → γ) : ∀ (as : List α) (ks : List β), as.length = ks.length → (as.zip ks).map (fun z => f z.1) = as.map f
  | [], _, _ => rfl
  | a :: as, [], h => by simp at h
  | a :: as, k :: ks, h => by
    rw [List.zip_cons_cons, List.map_cons, List.map_cons, map_zip1 f as ks (by simpa using h)]
section
variable {X : Cx}
theorem cr_sortedItemsK (hc : X.calm = true) : CallR X (.builtin "sorted") rSortItK := by
  intro pins s σ H xs us Q I r h
  obtain ⟨p, a, ks, rfl, hp, ha, hnd, q⟩ := h
  obtain rfl := Vals.ref1 r
  have view : s.heap.IsItemsView p a := (show ObjOk X.prog X.w H s.heap p (DX.itemsO p a) from I.hok p _ hp).1
  obtain ⟨z, hd, vs, rel, o, es, ep, ho, hx, hdat, _, prs, _⟩ := dk_of I.hok ha
  have l1 : ks.length = vs.length := by
    have z := Paired.length rel
    rwa [List.length_map] at z
  have l2 : es.size = vs.length := by
    have z := prs.length
    rwa [Array.length_toList] at z
  rw [List.length_map] at z
  refine DT.sortedI (es := es) (ep := ep) (I.ok.hd hc) view ⟨o, ho, hx, hdat⟩ (by omega) fun h' tk as hk hlt hl hG => ?_
  have lak : as.length = ks.length := by omega
  have nd : as.Nodup := List.Pairwise.imp (fun h => Nat.ne_of_lt h) hG.rise
  have made : ∀ (j : Nat) (b : Addr), as[j]? = some b → ∃ (e : Int × V) (y : Value) (t : Tok), ks[j]? = some e ∧ RelV e.2 y ∧ h'.get? b = some { cls := .type "tuple", data := .seq #[Value.int e.1 t, y] } := by
    intro j b hj
    obtain ⟨en, he, hg⟩ := hG.pairs j b hj
    obtain ⟨kv, e1, e2, e3⟩ := pairs_get prs (by rw [Array.getElem?_toList]; exact he)
    obtain ⟨pv, f1, f2, f3⟩ := kv_get rel e1
    rw [List.getElem?_map] at f1
    cases g : ks[j]? with
    | none => rw [g] at f1; cases f1
    | some e =>
      rw [g] at f1
      cases Option.some.inj f1
      have f2' : kv.1 = Sum.inl e.1 := f2.symm
      rw [f2'] at e2
      rcases keyIs_shape e2 with ⟨i, t, h1, h2⟩ | ⟨x, t, h1, _⟩
      · cases h1
        refine ⟨e, kv.2, t, rfl, f3, ?_⟩
        rw [hg, h2, e3]
      · cases h1
  -- the heap of the sort
  have hob : (h'.push { cls := .type "list", data := .seq (as.map Value.ref).toArray }).get? h'.objs.size = some (seqObj "list" (as.map Value.ref).toArray 0) := Heap.get?_push_size _ rfl
  have ne0 : ∀ b o, h'.get? b = some o → b ≠ h'.objs.size := fun b o e => Nat.ne_of_lt (Heap.lt_size e)
  have ka : ∀ b o, h'.get? b = some o → (h'.push { cls := .type "list", data := .seq (as.map Value.ref).toArray }).get? b = some o := fun b o e => Heap.get?_push_of_some _ e
  generalize (h'.push { cls := .type "list", data := .seq (as.map Value.ref).toArray }) = h2 at hob ka ⊢
  have pk : ∀ (j : Nat) (b : Addr), as[j]? = some b → ∃ (e : Int × V) (y : Value), ks[j]? = some e ∧ RelV e.2 y ∧ PairK h2 (.ref b) e.1 y := by
    intro j b hj
    obtain ⟨e, y, t, h1, h3, h4⟩ := made j b hj
    exact ⟨e, y, h1, h3, b, t, rfl, _, ka _ _ h4, rfl, _, rfl⟩
  have at_ : ∀ v ∈ as.map Value.ref, ∃ (j : Nat) (b : Addr) (e : Int × V) (y : Value), v = .ref b ∧ as[j]? = some b ∧ ks[j]? = some e ∧ PairK h2 v e.1 y := by
    intro v hv
    obtain ⟨b, hb, rfl⟩ := List.mem_map.mp hv
    obtain ⟨j, hj⟩ := List.mem_iff_getElem?.mp hb
    obtain ⟨e, y, h1, _, h3⟩ := pk j b hj
    exact ⟨j, b, e, y, rfl, hj, h1, h3⟩
  have uq : ∀ v ∈ as.map Value.ref, ∀ u ∈ as.map Value.ref, fst1 h2 v = fst1 h2 u → v = u := by
    intro v hv u hu e
    obtain ⟨j, b, c, y, rfl, h1, h3, h4⟩ := at_ v hv
    obtain ⟨j', b', c', y', rfl, h1', h3', h4'⟩ := at_ u hu
    rw [h4.fst, h4'.fst] at e
    have k1 : (ks.map (·.1))[j]? = some c.1 := by rw [List.getElem?_map, h3]; rfl
    have k2 : (ks.map (·.1))[j']? = some c.1 := by rw [List.getElem?_map, h3', e]; rfl
    have ej : j = j' := (List.getElem?_inj (List.getElem?_eq_some_iff.mp k1).1 hnd).mp (k1.trans k2.symm)
    subst ej
    cases Option.some.inj (h1.symm.trans h1')
    rfl
  have hsz : (as.map Value.ref).length ≤ sizeLine := by rw [List.length_map, lak]; exact z
  refine wpAny_call_entry PyProof.Rows.slot_list_sort ⟨_, hob, rfl⟩ PyProof.Rows.entry_list_sort
    (SrtO.list_sort_ord (s := { s with heap := h2, toks := tk }) (swo_fst (fst1 h2)) hob hsz (fun h2' => ?_) fun out o1 o2 => ⟨.none, rfl, ?_⟩) (PyProof.Rows.args_list_sort _)
  · refine sortable_K (s := { s with heap := h2, toks := tk }) (by omega) (fun v hv => ?_) uq (fun o e c => ?_)
    · obtain ⟨j, b, c, y, _, _, _, h4⟩ := at_ v hv
      exact ⟨c.1, y, h4⟩
    · cases Option.some.inj (e.symm.trans hob)
      exact absurd (Value.type.inj c) (by decide)
  · show EP X pins σ Q (.ref h'.objs.size) { s with heap := sortedHeap h2 h'.objs.size (as.map Value.ref) out.toArray, toks := tk }
    obtain ⟨zs, pz, ez⟩ := perm_lift (fun z : Addr × Int × V => Value.ref z.1) o2.perm (as.zip ks) (map_zip1 Value.ref as ks lak)
    have idx : ∀ z ∈ zs, ∃ j : Nat, as[j]? = some z.1 ∧ ks[j]? = some z.2 := by
      intro z' hz'
      obtain ⟨j, hj⟩ := List.mem_iff_getElem?.mp (pz.mem_iff.mp hz')
      exact ⟨j, List.getElem?_zip_eq_some.mp hj⟩
    have hperm : (zs.map (·.2)).Perm ks := by
      have e := pz.map (·.2)
      have m2 : (as.zip ks).map (·.2) = ks := List.map_snd_zip (by rw [lak]; exact Nat.le_refl _)
      rwa [m2] at e
    have key : ∀ z ∈ zs, fst1 h2 (Value.ref z.1) = z.2.1 := by
      intro z' hz'
      obtain ⟨j, j1, j2⟩ := idx z' hz'
      obtain ⟨e, y, h1, _, h3⟩ := pk j z'.1 j1
      have ee : e = z'.2 := Option.some.inj (h1.symm.trans j2)
      rw [h3.fst, ee]
    have hnd2 : (zs.map (·.2.1)).Nodup := by
      have e := (hperm.map (·.1)).nodup_iff.mpr hnd
      rwa [List.map_map] at e
    have hsort : (zs.map (·.2.1)).Pairwise (· < ·) := by
      have o3 : (zs.map fun z => Value.ref z.1).Pairwise (fun x y => decide (fst1 h2 y < fst1 h2 x) = false) := by rw [ez]; exact o1
      rw [List.pairwise_map] at o3
      rw [List.pairwise_map]
      have hnd3 := List.pairwise_map.mp hnd2
      refine List.Pairwise.imp_of_mem (fun {x y} hx hy h => ?_) (o3.and hnd3)
      have a1 := of_decide_eq_false h.1
      rw [key x hx, key y hy] at a1
      have a2 := h.2
      omega
    -- behind the sort
    have kF : ∀ b o, b ≠ h'.objs.size → h2.get? b = some o → (sortedHeap h2 h'.objs.size (as.map Value.ref) out.toArray).get? b = some o := fun b o hb e => (PyProof.Rows.sortedHeap_old hb (Heap.lt_size e)).trans e
    have kS : ∀ b o, s.heap.get? b = some o → (sortedHeap h2 h'.objs.size (as.map Value.ref) out.toArray).get? b = some o := fun b o e => kF b o (ne0 _ _ (hk b o e)) (ka _ _ (hk b o e))
    obtain ⟨eF, heF⟩ := PyProof.Rows.sortedHeap_at (vs := as.map Value.ref) (out := out.toArray) hob
    have I1 : Inv X pins σ H { s with heap := sortedHeap h2 h'.objs.size (as.map Value.ref) out.toArray, toks := tk } := I.kept (t' := tk) kS
    have hn0 : H h'.objs.size = none := I.hok.fresh (Nat.le_of_lt hlt)
    have hlen : (zs.map fun z => V.ref z.1).length ≤ sizeLine := by
      have e := hperm.length_eq
      rw [List.length_map] at e
      rw [List.length_map, e]
      exact z
    have rv : Vals (zs.map fun z => V.ref z.1) out := by
      rw [← ez]
      exact vals_maps (fun z : Addr × Int × V => V.ref z.1) (fun z => Value.ref z.1) zs fun _ _ => rfl
    have I2 : Inv X pins σ (upd H h'.objs.size (.lst (zs.map fun z => V.ref z.1))) { s with heap := sortedHeap h2 h'.objs.size (as.map Value.ref) out.toArray, toks := tk } :=
      I1.take (h' := sortedHeap h2 h'.objs.size (as.map Value.ref) out.toArray) (t' := tk) (fun b ob _ e => e) (I.fpOk (Nat.le_of_lt hlt) hn0) ⟨hlen, out, eF, rv, heF⟩
    obtain ⟨H2, I3, g, qt⟩ := DX.takeT (P := fun b ys => ∃ (j : Nat) (e : Int × V), as[j]? = some b ∧ ks[j]? = some e ∧ ys = [.int e.1, e.2]) I as _ I2 nd fun b hb => by
      obtain ⟨j, hj⟩ := List.mem_iff_getElem?.mp hb
      obtain ⟨e, y, t, he, hy, hg⟩ := made j b hj
      have hbl : s.heap.objs.size ≤ b := Nat.le_of_lt (hG.above b hb)
      refine ⟨hbl, ?_, [.int e.1, e.2], ⟨j, e, hj, he, rfl⟩, fun H3 => ⟨(by show 2 ≤ sizeLine; decide), [Value.int e.1 t, y], .cons ⟨t, rfl⟩ (.cons hy .nil), ⟨_, kF _ _ (ne0 _ _ hg) (ka _ _ hg), rfl, 0, rfl⟩⟩⟩
      rw [upd_ne (ne0 _ _ hg)]
      exact I.hok.fresh hbl
    refine ⟨.ref h'.objs.size, H2, I3, rfl, q H2 h'.objs.size zs (fun b o e => g b o (by rw [upd_ne (ne_of_none e hn0)]; exact e)) hn0 hperm hsort (g _ _ upd_same) fun z' hz' => ?_⟩
    obtain ⟨i, i1, i2⟩ := idx z' hz'
    obtain ⟨ys, ⟨j, e, j1, j2, ev⟩, hH⟩ := qt z'.1 (List.mem_of_getElem? i1)
    have eij : i = j := (List.getElem?_inj (List.getElem?_eq_some_iff.mp i1).1 nd).mp (i1.trans j1.symm)
    subst eij
    have ee : e = z'.2 := Option.some.inj (j2.symm.trans i2)
    rw [ev, ee] at hH
    exact hH
end
end St

namespace St
open PySem PySem.Spec PyProof.Rows L2
/-! ### what a guesser knows -/
inductive Sg where
  | str (l : Option Int) (st t : Int)
  | prs (l : Option Int) (kn : List (Int × List Int))
  | both (a b : Sg)
def optV : Option Int → V
  | none => .non
  | some i => .int i
/-- what came behind what: its lists lie in tuples -/
def Ku (K : PySem.W.Frag) (H : Hp) (kn : List (Int × List Int)) (ku : List (Int × Addr)) : Prop := Paired (fun (e : Int × List Int) (f : Int × Addr) => e.1 = f.1 ∧ SqT K H f.2 (e.2.map V.int)) kn ku
/-- .. as it lies in a tuple q of pairs -/
def IsKn (K : PySem.W.Frag) (H : Hp) (kn : List (Int × List Int)) (q : Addr) : Prop :=
  ∃ (o : Obj) (ps : List Addr) (ku : List (Int × Addr)), H q = some (.frz o (.tup (ps.map V.ref))) ∧ o.dict = none ∧ Paired (fun (p : Addr) (e : Int × Addr) => SqT K H p [.int e.1, .ref e.2]) ps ku ∧ Ku K H kn ku
theorem Ku.imm {K : PySem.W.Frag} {H H' : Hp} {kn : List (Int × List Int)} {ku : List (Int × Addr)} (h : Ku K H kn ku) (e : Imm H H') : Ku K H' kn ku := Paired.mapP h fun _ _ z => ⟨z.1, e.t z.2⟩
def IsS (K : PySem.W.Frag) (H : Hp) : Sg → V → Prop
  | .str l st t, v => ∃ p, v = .ref p ∧ SqT K H p [optV l, .int st, .int t]
  | .prs l kn, v => ∃ p q, v = .ref p ∧ SqT K H p [optV l, .ref q] ∧ IsKn K H kn q
  | .both a b, v => ∃ p x y, v = .ref p ∧ SqT K H p [x, y] ∧ IsS K H a x ∧ IsS K H b y
theorem IsKn.imm {K : PySem.W.Frag} {H H' : Hp} {kn : List (Int × List Int)} {q : Addr} (h : IsKn K H kn q) (e : Imm H H') : IsKn K H' kn q := by
  obtain ⟨o, ps, ku, h1, h2, h3, h4⟩ := h
  exact ⟨o, ps, ku, e.frz _ _ _ (.inl ⟨_, rfl⟩) h1, h2, Paired.mapP h3 fun _ _ z => e.t z, h4.imm e⟩
theorem IsS.imm {K : PySem.W.Frag} {H H' : Hp} : ∀ {s : Sg} {v : V}, IsS K H s v → Imm H H' → IsS K H' s v
  | .str _ _ _, _, ⟨p, e, h⟩, i => ⟨p, e, i.t h⟩
  | .prs _ _, _, ⟨p, q, e, h, k⟩, i => ⟨p, q, e, i.t h, k.imm i⟩
  | .both _ _, _, ⟨p, x, y, e, h, a, b⟩, i => ⟨p, x, y, e, i.t h, a.imm i, b.imm i⟩
theorem IsS.same {K : PySem.W.Frag} {H H' : Hp} {s : Sg} {v : V} (h : IsS K H s v) (e : Same H H') : IsS K H' s v := h.imm (Imm.same e)
/-- put in its place -/
def insK {α : Type} (k : Int) (v : α) : List (Int × α) → List (Int × α)
  | [] => [(k, v)]
  | (k', v') :: r => if k < k' then (k, v) :: (k', v') :: r else if k = k' then (k, v) :: r else (k', v') :: insK k v r
def lookK (kn : List (Int × List Int)) (k : Int) : List Int := (kn.lookup k).getD []
def knStep (many : Int) (l : Option Int) (kn : List (Int × List Int)) (p : Int) : List (Int × List Int) :=
  match l with
  | none => kn
  | some x => insK x (p :: ((lookK kn x).filter fun e => decide (e ≠ p)).take (many - 1).toNat) kn
def strStep (trust : Int) (l : Option Int) (st t p : Int) : Sg × List Int :=
  match l with
  | none => (.str (some p) 0 0, [])
  | some x => (.str (some p) (p - x) (if p - x = st then t + 1 else 1), if p - x ≠ 0 ∧ trust ≤ (if p - x = st then t + 1 else 1) then [p + (p - x)] else [])
def hd0 : List Int → Int
  | [] => 0
  | n :: _ => n
/-- what a guesser knows and guesses behind a place more -/
def stepG : G → Sg → Int → Sg × List Int
  | .both a b, .both s t, p => (.both (stepG a s p).1 (stepG b t p).1, (stepG a s p).2 ++ (stepG b t p).2.filter fun e => decide (e ∉ (stepG a s p).2))
  | .leaf w ns, s, p => if w = "none" then (s, []) else if w = "next" then (s, (List.range (hd0 ns).toNat).map fun (k : Nat) => p + (k : Int) + 1)
      else (match s with
        | .str l st t => strStep (hd0 ns) l st t p
        | .prs l kn => (.prs (some p) (knStep (hd0 ns) l kn p), lookK (knStep (hd0 ns) l kn p) p)
        | s => (s, []))
  | _, s, _ => (s, [])
/-- the state fits the guesser -/
def Fit : G → Sg → Prop
  | .both a b, .both s t => Fit a s ∧ Fit b t
  | .leaf w _, .str _ _ _ => w = "stride"
  | .leaf w _, .prs _ _ => w ≠ "stride"
  | _, _ => False
def first0 : G → Sg
  | .both a b => .both (first0 a) (first0 b)
  | .leaf w _ => if w = "stride" then .str none 0 0 else .prs none []
  | _ => .prs none []
/-- keys rise; few of them; few behind each -/
def okS (N : Nat) : Sg → Prop
  | .str _ _ _ => True
  | .prs _ kn => kn.length ≤ N ∧ (kn.map (·.1)).Pairwise (· < ·) ∧ ∀ e ∈ kn, e.2.length ≤ 3
  | .both a b => okS N a ∧ okS N b
theorem insK_len {α : Type} (k : Int) (v : α) : ∀ kn : List (Int × α), (insK k v kn).length ≤ kn.length + 1
  | [] => Nat.le_refl _
  | (k', v') :: r => by
    unfold insK
    split
    · exact Nat.le_refl _
    · split
      · exact Nat.le_succ _
      · exact Nat.succ_le_succ (insK_len k v r)
theorem insK_mem {α : Type} {k : Int} {v : α} : ∀ {kn : List (Int × α)} {e : Int × α}, e ∈ insK k v kn → e = (k, v) ∨ e ∈ kn
  | [], e, h => .inl (List.mem_singleton.mp h)
  | (k', v') :: r, e, h => by
    unfold insK at h
    split at h
    · rcases List.mem_cons.mp h with h | h
      · exact .inl h
      · exact .inr h
    · split at h
      · rcases List.mem_cons.mp h with h | h
        · exact .inl h
        · exact .inr (List.mem_cons_of_mem _ h)
      · rcases List.mem_cons.mp h with h | h
        · exact .inr (h ▸ List.mem_cons_self ..)
        · rcases insK_mem h with h | h
          · exact .inl h
          · exact .inr (List.mem_cons_of_mem _ h)
theorem insK_rise {α : Type} {k : Int} {v : α} : ∀ {kn : List (Int × α)}, (kn.map (·.1)).Pairwise (· < ·) → ((insK k v kn).map (·.1)).Pairwise (· < ·)
  | [], _ => List.pairwise_singleton _ _
  | (k', v') :: r, h => by
    rw [List.map_cons, List.pairwise_cons] at h
    unfold insK
    split
    · rename_i c
      rw [List.map_cons, List.pairwise_cons, List.map_cons, List.pairwise_cons]
      refine ⟨fun x hx => ?_, h⟩
      rcases List.mem_cons.mp hx with rfl | hx
      · exact c
      · exact Int.lt_trans c (h.1 x hx)
    · split
      · rename_i c
        subst c
        rw [List.map_cons, List.pairwise_cons]
        exact h
      · rename_i c1 c2
        rw [List.map_cons, List.pairwise_cons]
        refine ⟨fun x hx => ?_, insK_rise h.2⟩
        obtain ⟨e, he, rfl⟩ := List.mem_map.mp hx
        rcases insK_mem he with rfl | he
        · show k' < k
          omega
        · exact h.1 _ (List.mem_map.mpr ⟨e, he, rfl⟩)
theorem lookK_len {N : Nat} {kn : List (Int × List Int)} (h : ∀ e ∈ kn, e.2.length ≤ N) (k : Int) : (lookK kn k).length ≤ N := by
  unfold lookK
  cases e : kn.lookup k with
  | none => exact Nat.zero_le _
  | some v =>
    show v.length ≤ N
    have : ∀ {kn : List (Int × List Int)}, kn.lookup k = some v → (k, v) ∈ kn := by
      intro kn
      induction kn with
      | nil => intro h; cases h
      | cons a r ih =>
        intro h
        obtain ⟨x, y⟩ := a
        rw [List.lookup_cons] at h
        split at h
        · rename_i c
          have := eq_of_beq c
          subst this
          cases Option.some.inj h
          exact List.mem_cons_self ..
        · exact List.mem_cons_of_mem _ (ih h)
    exact h _ (this e)
theorem knStep_ok {N : Nat} {many : Int} (hm : many ≤ 3) {l : Option Int} {kn : List (Int × List Int)} {p : Int} (h : okS N (.prs l kn)) : okS (N + 1) (.prs (some p) (knStep many l kn p)) := by
  obtain ⟨h1, h2, h3⟩ := h
  unfold knStep
  cases l with
  | none => exact ⟨Nat.le_succ_of_le h1, h2, h3⟩
  | some x =>
    refine ⟨Nat.le_trans (insK_len _ _ _) (Nat.succ_le_succ h1), insK_rise h2, fun e he => ?_⟩
    rcases insK_mem he with rfl | he
    · show (p :: _).length ≤ 3
      rw [List.length_cons, List.length_take]
      omega
    · exact h3 e he
/-- by the keys alone -/
theorem rise_uniq {α : Type} {l m : List (Int × α)} (p : l.Perm m) (hl : (l.map (·.1)).Pairwise (· < ·)) (hm : (m.map (·.1)).Pairwise (· < ·)) : l = m := by
  rw [List.pairwise_map] at hl hm
  exact List.Perm.eq_of_pairwise (fun a b _ _ h1 h2 => absurd h1 (Int.not_lt.mpr (Int.le_of_lt h2))) hl hm p
theorem insK_perm {α : Type} {k : Int} {v : α} : ∀ {kn : List (Int × α)}, (∀ e ∈ kn, e.1 ≠ k) → (insK k v kn).Perm (kn ++ [(k, v)])
  | [], _ => List.Perm.refl _
  | (k', v') :: r, h => by
    unfold insK
    split
    · exact (List.perm_append_comm (l₁ := [(k, v)]) (l₂ := (k', v') :: r))
    · split
      · rename_i c
        exact absurd c.symm (h _ (List.mem_cons_self ..))
      · exact (insK_perm fun e he => h e (List.mem_cons_of_mem _ he)).cons _
theorem insK_old {α : Type} {k : Int} {v : α} : ∀ {kn : List (Int × α)}, (kn.map (·.1)).Pairwise (· < ·) → (∃ e ∈ kn, e.1 = k) → insK k v kn = kn.map fun e => if e.1 = k then (e.1, v) else e
  | [], _, ⟨e, h, _⟩ => nomatch h
  | (k', v') :: r, h, ⟨e, he, ek⟩ => by
    rw [List.map_cons, List.pairwise_cons] at h
    unfold insK
    by_cases c : k = k'
    · subst c
      rw [if_neg (Int.lt_irrefl _), if_pos rfl, List.map_cons, if_pos rfl]
      have : r.map (fun e => if e.1 = k then (e.1, v) else e) = r := by
        refine (List.map_congr_left fun e he => ?_).trans (List.map_id r)
        have := h.1 e.1 (List.mem_map.mpr ⟨e, he, rfl⟩)
        rw [if_neg (by show ¬ e.1 = k; omega)]
        rfl
      rw [this]
    · have he' : e ∈ r := by
        rcases List.mem_cons.mp he with rfl | he
        · exact absurd ek.symm c
        · exact he
      have lt : k' < k := by
        have := h.1 e.1 (List.mem_map.mpr ⟨e, he', rfl⟩)
        omega
      rw [if_neg (by omega), if_neg c, List.map_cons, if_neg (fun z => c z.symm), insK_old h.2 ⟨e, he', ek⟩]
/-- a dict's store, in order again -/
theorem put_ins {α : Type} {k : Int} {v : α} {kn : List (Int × α)} (h : (kn.map (·.1)).Pairwise (· < ·)) {m : List (Int × α)}
    (e : m = if (kn.any fun e => decide (e.1 = k)) = true then kn.map (fun e => if e.1 = k then (e.1, v) else e) else kn ++ [(k, v)]) {l : List (Int × α)} (p : l.Perm m) (hl : (l.map (·.1)).Pairwise (· < ·)) : l = insK k v kn := by
  subst e
  by_cases c : (kn.any fun e => decide (e.1 = k)) = true
  · rw [if_pos c] at p
    obtain ⟨x, hx, ex⟩ := List.any_eq_true.mp c
    have z := insK_old (v := v) h ⟨x, hx, of_decide_eq_true ex⟩
    rw [← z] at p
    exact rise_uniq p hl (insK_rise h)
  · rw [if_neg c] at p
    have n : ∀ e ∈ kn, e.1 ≠ k := fun e he z => c (List.any_eq_true.mpr ⟨e, he, decide_eq_true z⟩)
    exact rise_uniq (p.trans (insK_perm n).symm) hl (insK_rise h)
theorem insK_map {α β : Type} (f : α → β) (k : Int) (v : α) : ∀ kn : List (Int × α), (insK k v kn).map (fun e => (e.1, f e.2)) = insK k (f v) (kn.map fun e => (e.1, f e.2))
  | [] => rfl
  | (k', v') :: r => by
    show (insK k v ((k', v') :: r)).map _ = insK k (f v) ((k', f v') :: r.map fun e => (e.1, f e.2))
    unfold insK
    by_cases c1 : k < k'
    · rw [if_pos c1, if_pos c1]; rfl
    · rw [if_neg c1, if_neg c1]
      by_cases c2 : k = k'
      · rw [if_pos c2, if_pos c2]; rfl
      · rw [if_neg c2, if_neg c2, List.map_cons, insK_map f k v r]
theorem Ku.keys {K : PySem.W.Frag} {H : Hp} : ∀ {kn : List (Int × List Int)} {ku : List (Int × Addr)}, Ku K H kn ku → ku.map (·.1) = kn.map (·.1)
  | _, _, .nil => rfl
  | _, _, .cons h r => by rw [List.map_cons, List.map_cons, h.1, Ku.keys r]
theorem Ku.len {K : PySem.W.Frag} {H : Hp} {kn : List (Int × List Int)} {ku : List (Int × Addr)} (h : Ku K H kn ku) : kn.length = ku.length := Paired.length h
theorem Ku.look {K : PySem.W.Frag} {H : Hp} (k : Int) : ∀ {kn : List (Int × List Int)} {ku : List (Int × Addr)}, Ku K H kn ku → (kn.lookup k = none ∧ ku.lookup k = none) ∨ ∃ v u, kn.lookup k = some v ∧ ku.lookup k = some u ∧ SqT K H u (v.map V.int)
  | _, _, .nil => .inl ⟨rfl, rfl⟩
  | (k1, v) :: kn, (k2, u) :: ku, .cons ⟨h, hs⟩ r => by
    simp only at h hs
    subst h
    by_cases c : k = k1
    · subst c
      exact .inr ⟨v, u, by simp [List.lookup], by simp [List.lookup], hs⟩
    · have c1 : (k == k1) = false := beq_eq_false_iff_ne.mpr c
      rcases Ku.look k r with ⟨a, b⟩ | ⟨v', u', a, b, d⟩
      · exact .inl ⟨by simp [List.lookup, c1, a], by simp [List.lookup, c1, b]⟩
      · exact .inr ⟨v', u', by simp [List.lookup, c1, a], by simp [List.lookup, c1, b], d⟩
theorem Ku.ins {K : PySem.W.Frag} {H : Hp} {k : Int} {v : List Int} {u : Addr} (hs : SqT K H u (v.map V.int)) : ∀ {kn : List (Int × List Int)} {ku : List (Int × Addr)}, Ku K H kn ku → Ku K H (insK k v kn) (insK k u ku)
  | _, _, .nil => .cons ⟨rfl, hs⟩ .nil
  | (k1, v1) :: kn, (k2, u1) :: ku, .cons ⟨h, h1⟩ r => by
    simp only at h h1
    subst h
    unfold insK
    by_cases c1 : k < k1
    · rw [if_pos c1, if_pos c1]
      exact .cons ⟨rfl, hs⟩ (.cons ⟨rfl, h1⟩ r)
    · rw [if_neg c1, if_neg c1]
      by_cases c2 : k = k1
      · rw [if_pos c2, if_pos c2]
        exact .cons ⟨rfl, hs⟩ r
      · rw [if_neg c2, if_neg c2]
        exact .cons ⟨rfl, h1⟩ (Ku.ins hs r)
/-- as a dict's pairs -/
def dk (ku : List (Int × Addr)) : List (Key × V) := ku.map fun e => (Sum.inl e.1, V.ref e.2)
def dput (ku : List (Int × Addr)) (k : Int) (u : Addr) : List (Int × Addr) := if (ku.any fun e => decide (e.1 = k)) = true then ku.map (fun e => if e.1 = k then (e.1, u) else e) else ku ++ [(k, u)]
theorem any_dk (k : Int) : ∀ ku : List (Int × Addr), ((dk ku).any fun kv => decide (kv.1 = Sum.inl k)) = ku.any fun e => decide (e.1 = k)
  | [] => rfl
  | (a, b) :: r => by
    show (decide ((Sum.inl a : Key) = Sum.inl k) || (dk r).any _) = (decide (a = k) || r.any _)
    rw [any_dk k r, key_ll, Bool.beq_eq_decide_eq]
theorem put_dk (ku : List (Int × Addr)) (k : Int) (u : Addr) : putK (dk ku) (Sum.inl k : Key) (V.ref u) = dk (dput ku k u) := by
  unfold putK dput
  rw [any_dk]
  split
  · unfold dk
    rw [List.map_map, List.map_map]
    refine List.map_congr_left fun e _ => ?_
    show (if (Sum.inl e.1 : Key) = Sum.inl k then (Sum.inl e.1, V.ref u) else (Sum.inl e.1, V.ref e.2)) = _
    by_cases c : e.1 = k
    · rw [if_pos (congrArg Sum.inl c)]
      show _ = (fun e : Int × Addr => ((Sum.inl e.1 : Key), V.ref e.2)) (if e.1 = k then (e.1, u) else e)
      rw [if_pos c]
    · rw [if_neg (fun z => c (Sum.inl.inj z))]
      show _ = (fun e : Int × Addr => ((Sum.inl e.1 : Key), V.ref e.2)) (if e.1 = k then (e.1, u) else e)
      rw [if_neg c]
  · unfold dk
    rw [List.map_append]
    rfl
theorem val_dk (k : Int) : ∀ ku : List (Int × Addr), valV (dk ku) (Sum.inl k : Key) = (ku.lookup k).map V.ref
  | [] => rfl
  | (a, b) :: r => by
    by_cases c : a = k
    · subst c
      show valV ((Sum.inl a, V.ref b) :: dk r) _ = _
      rw [valV_pos rfl]
      simp [List.lookup]
    · show valV ((Sum.inl a, V.ref b) :: dk r) _ = _
      rw [valV_neg (fun z => c (Sum.inl.inj z)), val_dk k r]
      have : (k == a) = false := beq_eq_false_iff_ne.mpr (Ne.symm c)
      simp [List.lookup, this]
theorem merge_new : ∀ (more kvs : List (Key × V)), ((kvs ++ more).map (·.1)).Nodup → mergeK kvs more = kvs ++ more
  | [], kvs, _ => by rw [List.append_nil]; rfl
  | p :: r, kvs, h => by
    have e : putK kvs p.1 p.2 = kvs ++ [p] := by
      unfold putK
      rw [if_neg]
      intro c
      obtain ⟨x, hx, ex⟩ := List.any_eq_true.mp c
      have ex := of_decide_eq_true ex
      rw [List.map_append, List.nodup_append] at h
      exact h.2.2 x.1 (List.mem_map.mpr ⟨x, hx, rfl⟩) p.1 (by rw [List.map_cons]; exact List.mem_cons_self ..) ex
    show mergeK (putK kvs p.1 p.2) r = _
    rw [e, merge_new r (kvs ++ [p]) (by rw [List.append_assoc]; exact h), List.append_assoc]
    rfl
theorem rise_nodup {l : List Int} (h : l.Pairwise (· < ·)) : l.Nodup := List.Pairwise.imp (fun h => Int.ne_of_lt h) h
theorem merge_dk {ku : List (Int × Addr)} (h : (ku.map (·.1)).Pairwise (· < ·)) : mergeK [] (dk ku) = dk ku := by
  refine merge_new _ _ ?_
  show ((dk ku).map (·.1)).Nodup
  have e : (dk ku).map (·.1) = (ku.map (·.1)).map (Sum.inl : Int → Key) := by
    unfold dk
    rw [List.map_map, List.map_map]
    rfl
  rw [e]
  exact List.pairwise_map.mpr ((rise_nodup h).imp fun h z => h (Sum.inl.inj z))
abbrev rv (e : Int × Addr) : Int × V := (e.1, V.ref e.2)
theorem pr_zs {K : PySem.W.Frag} {H : Hp} : ∀ {zs : List (Addr × Int × V)} {m : List (Int × Addr)}, zs.map (·.2) = m.map rv → (∀ z ∈ zs, SqT K H z.1 [.int z.2.1, z.2.2]) → Paired (fun (p : Addr) (e : Int × Addr) => SqT K H p [.int e.1, .ref e.2]) (zs.map (·.1)) m
  | [], [], _, _ => .nil
  | [], _ :: _, h, _ => by simp at h
  | _ :: _, [], h, _ => by simp at h
  | z :: zs, e :: m, h, hz => by
    rw [List.map_cons, List.map_cons] at h
    injection h with h1 h2
    have a := hz z (List.mem_cons_self ..)
    rw [h1] at a
    exact .cons a (pr_zs h2 fun z hz' => hz z (List.mem_cons_of_mem _ hz'))
theorem mem_lookup {α : Type} {k : Int} {v : α} : ∀ {l : List (Int × α)}, (l.map (·.1)).Nodup → ((k, v) ∈ l ↔ l.lookup k = some v)
  | [], _ => by simp
  | (a, b) :: r, h => by
    rw [List.map_cons, List.nodup_cons] at h
    rw [List.lookup_cons, List.mem_cons]
    by_cases c : k = a
    · subst c
      rw [beq_self_eq_true]
      constructor
      · rintro (e | e)
        · injection e with _ e; rw [e]
        · exact absurd (List.mem_map.mpr ⟨(k, v), e, rfl⟩) h.1
      · intro e
        rw [Option.some.inj e]
        exact .inl rfl
    · rw [beq_eq_false_iff_ne.mpr c]
      constructor
      · rintro (e | e)
        · injection e with e _; exact absurd e c
        · exact (mem_lookup h.2).mp e
      · intro e
        exact .inr ((mem_lookup h.2).mpr e)
theorem lookup_perm {α : Type} {k : Int} {l m : List (Int × α)} (p : l.Perm m) (h : (m.map (·.1)).Nodup) : l.lookup k = m.lookup k := by
  have hl : (l.map (·.1)).Nodup := ((p.map (·.1)).nodup_iff).mpr h
  cases e : m.lookup k with
  | some v => exact (mem_lookup hl).mp (p.mem_iff.mpr ((mem_lookup h).mpr e))
  | none =>
    cases e2 : l.lookup k with
    | none => rfl
    | some v =>
      rw [(mem_lookup h).mp (p.mem_iff.mp ((mem_lookup hl).mpr e2))] at e
      cases e
theorem dput_perm {ku : List (Int × Addr)} (h : (ku.map (·.1)).Pairwise (· < ·)) (k : Int) (u : Addr) : (insK k u ku).Perm (dput ku k u) := by
  unfold dput
  by_cases c : (ku.any fun e => decide (e.1 = k)) = true
  · rw [if_pos c]
    obtain ⟨x, hx, ex⟩ := List.any_eq_true.mp c
    rw [insK_old h ⟨x, hx, of_decide_eq_true ex⟩]
  · rw [if_neg c]
    exact insK_perm fun e he z => c (List.any_eq_true.mpr ⟨e, he, decide_eq_true z⟩)
theorem dput_nodup {ku : List (Int × Addr)} (h : (ku.map (·.1)).Pairwise (· < ·)) (k : Int) (u : Addr) : ((dput ku k u).map (·.1)).Nodup :=
  (((dput_perm h k u).map (·.1)).nodup_iff).mp (rise_nodup (insK_rise h))
end St

namespace St
open PySem PySem.Spec PyProof.Rows L2
abbrev s_is_guesser : Stmt := topS 11
abbrev N_is_guesser : List Str := ["guesser", "within"]
abbrev p_is_guesser : List Str := ["guesser", "within"]
theorem sc_is_guesser : FnScope N_is_guesser p_is_guesser (defScope s_is_guesser) := ⟨rfl, rfl, rfl, by decide +kernel, rfl, by decide +kernel, by decide +kernel⟩
abbrev s_need_guesser : Stmt := topS 12
abbrev N_need_guesser : List Str := ["guesser"]
abbrev p_need_guesser : List Str := ["guesser"]
theorem sc_need_guesser : FnScope N_need_guesser p_need_guesser (defScope s_need_guesser) := ⟨rfl, rfl, rfl, by decide +kernel, rfl, by decide +kernel, by decide +kernel⟩
section
variable {P : Program} {w : World} {K : PySem.W.Frag} {mg : Str → Option Value} {base : Heap} {f dS dM : Addr} {fd : FuncData}
theorem ok_is_guesser (T : Nms mg) (B : Tab K w mg dS dM) (D_is_guesser : Df K mg "is_guesser" s_is_guesser p_is_guesser f fd) : ∀ n : Nat, FnOk P w K mg base CX0 n f fd p_is_guesser (spIs K n)
  | 0 => fn_zero fun vs H Q E ⟨v, g, w, _, _, _, h, h2, _⟩ => by omega
  | n + 1 => by
    have G_is_guesser := ok_is_guesser T B D_is_guesser n
    refine D_is_guesser.F.ok sc_is_guesser (fun vs H Q E h => ?_) (fun cdv A outer s H vs Q E hr h => ?_)
    · obtain ⟨r, m, wi, rfl, _⟩ := h
      rfl
    obtain ⟨v, g, m, rfl, hG, hW, h4, h5, q⟩ := h
    refine ⟨_, (pss_cons (ps_if (PW.pt (pw_or (pt_cmpR op_eq (pe_callB call_len_seq (by rfl) T.n_len (by decide +kernel) (pa_cons (pv 0) pa_nil)) pe_int (nomark _)) (pw_or (pt_cmpR (op_notIn_id B.i_SORTS) (pe_ix ix_tup (pv 0) pe_int (fun _ _ => rfl)) (pe_gref (by rfl) B.g_SORTS) (by with_unfolding_all rfl)) (pw_or (pt_cmpR op_ne (pe_callB call_len_seq (by rfl) T.n_len (by decide +kernel) (pa_cons (pv 0) pa_nil)) (pe_ix (ix_id B.i_SORTS) (pe_gref (by rfl) B.g_SORTS) (pe_ix ix_tup (pv 0) pe_int (fun _ _ => rfl)) (fun _ _ => rfl)) (nomark _)) (pw_or1 (pt_cmpR op_gt (pv 1) (pe_gint (by rfl) B.g_MOST_WITHIN) (nomark _)))))))
    (pss_one (ps_ret pe_bl))
    (pss_nil))
  (pss_cons (ps_if (pt_cmpR op_eq (pe_ix ix_tup (pv 0) pe_int (fun _ _ => rfl)) pe_str (nomark _))
    (pss_one (ps_ret (pe_and (pe_call G_is_guesser (hr.mono (by first | decide | omega)) (by rfl) D_is_guesser.m D_is_guesser.F.kp D_is_guesser.b .nil pass0 (pa_cons (pe_ix ix_tup (pv 0) pe_int (fun _ _ => rfl)) (pa_cons (pe_op op_add (pv 1) pe_int) pa_nil))) (pe_one (pe_call G_is_guesser (hr.mono (by first | decide | omega)) (by rfl) D_is_guesser.m D_is_guesser.F.kp D_is_guesser.b .nil pass0 (pa_cons (pe_ix ix_tup (pv 0) pe_int (fun _ _ => rfl)) (pa_cons (pe_op op_add (pv 1) pe_int) pa_nil)))))))
    (pss_nil))
  (pss_one (ps_ret (pe_or (pe_cmpR op_eq (pe_ix ix_tup (pv 0) pe_int (fun _ _ => rfl)) pe_str (nomark _)) (pe_one (pe_chain op_le op_le pe_int (pe_ix ix_tup (pv 0) pe_int (fun _ _ => rfl)) (pe_ix (ix_id B.i_MOST_OF) (pe_gref (by rfl) B.g_MOST_OF) (pe_ix ix_tup (pv 0) pe_int (fun _ _ => rfl)) (fun _ _ => rfl))))))))), ?_⟩
    cases g with
    | nil =>
      obtain ⟨p, rfl, hp⟩ := hG
      and_intros
      refine iteB (b := decide _) (decide_eq_true rfl) ?_
      exact q _ (Same.refl _)
    | leaf z ns =>
      obtain ⟨p, rfl, hp⟩ := hG
      have ez : ((.str z :: ns.map V.int : List V).length : Int) = (ns.length : Int) + 1 := by rw [List.length_cons, List.length_map]; rfl
      and_intros
      cases e : sortsL.lookup z with
      | none =>
        refine iteB rfl ?_
        refine iteB rfl ?_
        have q' := q H (Same.refl _)
        unfold isG at q'
        rw [e] at q'
        exact q'
      | some k =>
        refine iteB0 rfl ?_
        and_intros
        refine ⟨z, k, rfl, rfl, e, ?_⟩
        and_intros
        have q' : ∀ H', Same H H' → Q (V.bl (decide (((ns.length : Nat) : Int) + 1 = k) && decide (m ≤ 3) && (decide (z = "none") || numOk z ns))) H' := fun H' s => by
          have q' := q H' s
          unfold isG at q'
          rw [e] at q'
          exact q'
        by_cases c1 : ((ns.length : Nat) : Int) + 1 = k
        · rw [decide_eq_true c1] at q'
          refine iteB0 (by rw [ez, decide_eq_true (congrArg V.int c1)]; rfl) ?_
          and_intros
          by_cases c2 : m ≤ 3
          · rw [decide_eq_true c2] at q'
            refine iteB0 (decide_eq_false (by omega)) ?_
            and_intros
            refine iteB0 (decide_eq_false fun x => hW (V.str.inj x)) ?_
            and_intros
            by_cases c3 : z = "none"
            · rw [decide_eq_true c3] at q'
              refine iteB (decide_eq_true (congrArg V.str c3)) ?_
              exact q' _ (Same.refl _)
            · rw [decide_eq_false c3] at q'
              refine iteB0 (decide_eq_false fun x => c3 (V.str.inj x)) ?_
              obtain ⟨k2, mo, em⟩ := sorts_most e c3 hW
              obtain ⟨x, rfl⟩ : ∃ x, ns = [x] := by
                cases ns with
                | nil => rw [List.length_nil] at c1; omega
                | cons x r =>
                  cases r with
                  | nil => exact ⟨x, rfl⟩
                  | cons y r => rw [List.length_cons, List.length_cons] at c1; omega
              have eo : numOk z [x] = (decide (1 ≤ x) && decide (x ≤ mo)) := by unfold numOk; rw [em]
              rw [eo] at q'
              and_intros
              by_cases c4 : 1 ≤ x
              · refine iteB (decide_eq_true c4) ?_
                rw [decide_eq_true c4] at q'
                and_intros
                refine ⟨_, _, rfl, rfl, em, ?_⟩
                and_intros
                exact q' _ (Same.refl _)
              · refine iteB0 (decide_eq_false c4) ?_
                rw [decide_eq_false c4] at q'
                exact q' _ (Same.refl _)
          · rw [decide_eq_false c2] at q'
            refine iteB (decide_eq_true (by omega)) ?_
            exact q' _ (Same.refl _)
        · rw [decide_eq_false c1] at q'
          refine iteB (by rw [ez, decide_eq_false (fun e => c1 (V.int.inj e))]; rfl) ?_
          refine iteB rfl ?_
          exact q' _ (Same.refl _)
    | b1 a =>
      obtain ⟨p, x, rfl, hp, ha⟩ := hG
      and_intros
      refine ⟨_, 3, rfl, rfl, rfl, ?_⟩
      and_intros
      exact q _ (Same.refl _)
    | b3 a b c =>
      obtain ⟨p, x, y, z, rfl, hp, ha⟩ := hG
      and_intros
      refine ⟨_, 3, rfl, rfl, rfl, ?_⟩
      and_intros
      exact q _ (Same.refl _)
    | both a b =>
      obtain ⟨p, x, y, rfl, hp, ha, hb⟩ := hG
      and_intros
      refine ⟨_, 3, rfl, rfl, rfl, ?_⟩
      and_intros
      have q' : ∀ H', Same H H' → Q (V.bl (decide (m ≤ 3) && (isG (m + 1) a && isG (m + 1) b))) H' := q
      by_cases c2 : m ≤ 3
      · rw [decide_eq_true c2] at q'
        refine iteB0 (decide_eq_false (by omega)) ?_
        and_intros
        have ek : ∀ z : V, ([z, V.int ((m : Int) + 1)] : List V) = [z, V.int ((m + 1 : Nat) : Int)] := fun z => congrArg (fun i : Int => [z, V.int i]) (by omega)
        refine ⟨x, a, m + 1, ek _, ha, hW.1, by omega, by omega, fun H1 s1 => ?_⟩
        refine ⟨_, rfl, ?_⟩
        cases ea : isG (m + 1) a with
        | false =>
          refine iteN Bool.false_ne_true ?_
          rw [ea] at q'
          exact q' _ s1
        | true =>
          refine iteY rfl ?_
          rw [ea] at q'
          have hp1 := same_t s1 hp
          and_intros
          refine ⟨y, b, m + 1, ek _, hb.same s1, hW.2, by omega, by omega, fun H2 s2 => ?_⟩
          exact q' _ (s1.trans s2)
      · rw [decide_eq_false c2] at q'
        refine iteB (decide_eq_true (by omega)) ?_
        exact q' _ (Same.refl _)
theorem isG_good : ∀ (k : Nat) (g : G), good k g = true → k ≤ 3 → isG (3 - k) g = true ∧ WfG g
  | _, .nil, h, _ => by simp [good] at h
  | _, .b1 _, h, _ => by simp [good] at h
  | _, .b3 _ _ _, h, _ => by simp [good] at h
  | 0, .both _ _, h, _ => by simp [good] at h
  | k + 1, .both a b, h, hk => by
    have h' : (good k a && good k b) = true := h
    rw [Bool.and_eq_true] at h'
    have ha := isG_good k a h'.1 (by omega)
    have hb := isG_good k b h'.2 (by omega)
    have e : 3 - (k + 1) + 1 = 3 - k := by omega
    refine ⟨?_, ha.2, hb.2⟩
    show (decide (3 - (k + 1) ≤ 3) && (isG (3 - (k + 1) + 1) a && isG (3 - (k + 1) + 1) b)) = true
    rw [e, ha.1, hb.1, decide_eq_true (by omega)]
    rfl
  | k, .leaf w ns, h, _ => by
    unfold good at h
    rw [Bool.or_eq_true] at h
    rcases h with h | h
    · obtain ⟨rfl, rfl⟩ := of_decide_eq_true h
      refine ⟨?_, by show ("none" : Str) ≠ "both"; decide⟩
      show ((decide ((((0 : Nat)) : Int) + 1 = 1) && decide (3 - k ≤ 3)) && (decide (("none" : Str) = "none") || numOk "none" [])) = true
      rw [decide_eq_true (by omega : 3 - k ≤ 3)]
      rfl
    · cases ns with
      | nil => simp at h
      | cons n r =>
        cases r with
        | cons _ _ => simp at h
        | nil =>
          have h' := of_decide_eq_true h
          rcases h' with ⟨rfl, h1, h2⟩ | ⟨rfl, h1, h2⟩ | ⟨rfl, h1, h2⟩
          · refine ⟨?_, by show ("next" : Str) ≠ "both"; decide⟩
            show ((decide ((((1 : Nat)) : Int) + 1 = 2) && decide (3 - k ≤ 3)) && (decide (("next" : Str) = "none") || (decide (1 ≤ n) && decide (n ≤ 3)))) = true
            rw [decide_eq_true (by omega : 3 - k ≤ 3), decide_eq_true h1, decide_eq_true h2]
            simp
          · refine ⟨?_, by show ("stride" : Str) ≠ "both"; decide⟩
            show ((decide ((((1 : Nat)) : Int) + 1 = 2) && decide (3 - k ≤ 3)) && (decide (("stride" : Str) = "none") || (decide (1 ≤ n) && decide (n ≤ 3)))) = true
            rw [decide_eq_true (by omega : 3 - k ≤ 3), decide_eq_true h1, decide_eq_true h2]
            simp
          · refine ⟨?_, by show ("pairs" : Str) ≠ "both"; decide⟩
            show ((decide ((((1 : Nat)) : Int) + 1 = 2) && decide (3 - k ≤ 3)) && (decide (("pairs" : Str) = "none") || (decide (1 ≤ n) && decide (n ≤ 2)))) = true
            rw [decide_eq_true (by omega : 3 - k ≤ 3), decide_eq_true h1, decide_eq_true h2]
            simp
/-- of a good guesser nothing is refused -/
def spNeedG (K : PySem.W.Frag) : Sp := fun vs H Q _ => ∃ (v : V) (g : G), vs = [v] ∧ IsG K H g v ∧ good 3 g = true ∧ ∀ H', Same H H' → Q .non H'
theorem ok_need_guesser {f2 : Addr} {fd2 : FuncData} (T : Nms mg) (B : Tab K w mg dS dM) (D_is_guesser : Df K mg "is_guesser" s_is_guesser p_is_guesser f fd) (D_need_guesser : Df K mg "need_guesser" s_need_guesser p_need_guesser f2 fd2) : FnOk P w K mg base CX0 6 f2 fd2 p_need_guesser (spNeedG K) := by
  have G_is_guesser : FnOk P w K mg base CX0 5 f fd p_is_guesser (spIs K 5) := ok_is_guesser T B D_is_guesser 5
  refine D_need_guesser.F.ok sc_need_guesser (fun vs H Q E h => ?_) (fun cdv A outer s H vs Q E hr h => ?_)
  · obtain ⟨r, m, rfl, _⟩ := h
    rfl
  obtain ⟨v, g, rfl, hG, hg, q⟩ := h
  obtain ⟨hi, hW⟩ := isG_good 3 g hg (Nat.le_refl _)
  refine ⟨_, (pss_one (ps_if (pt_not (pt_val (pe_call G_is_guesser (hr.mono (by first | decide | omega)) (by rfl) D_is_guesser.m D_is_guesser.F.kp D_is_guesser.b .nil pass0 (pa_cons (pv 0) (pa_cons pe_int pa_nil)))))
    (pss_one (ps_never))
    (pss_nil))), ?_⟩
  and_intros
  refine ⟨v, g, 0, rfl, hG, hW, by omega, by omega, fun H1 s1 => ?_⟩
  and_intros
  rw [show isG 0 g = true from hi]
  exact q _ s1
end
end St

namespace St
open PySem PySem.Spec PyProof.Rows L2 TL
/-! ### the words of a guesser -/
def strN (n : Int) : Str := Str.ofString (toString n)
def wordsG : G → List Str
  | .leaf w ns => w :: ns.map strN
  | .both a b => "both" :: (wordsG a ++ wordsG b)
  | _ => []
theorem good_leaf {k : Nat} {w : Str} {ns : List Int} (h : good k (.leaf w ns) = true) : (w = "none" ∧ ns = []) ∨ ∃ n, ns = [n] ∧ (n = 1 ∨ n = 2 ∨ n = 3) ∧ (w = "next" ∨ w = "stride" ∨ w = "pairs") := by
  unfold good at h
  rw [Bool.or_eq_true] at h
  rcases h with h | h
  · exact .inl (of_decide_eq_true h)
  · cases ns with
    | nil => simp at h
    | cons n r =>
      cases r with
      | cons _ _ => simp at h
      | nil =>
        have h' := of_decide_eq_true h
        refine .inr ⟨n, rfl, ?_⟩
        rcases h' with ⟨rfl, h1, h2⟩ | ⟨rfl, h1, h2⟩ | ⟨rfl, h1, h2⟩
        · exact ⟨by omega, .inl rfl⟩
        · exact ⟨by omega, .inr (.inl rfl)⟩
        · exact ⟨by omega, .inr (.inr rfl)⟩
theorem len_app (x y : Str) : (x ++ y).length = x.length + y.length := by
  show (x ++ y).cps.size = x.cps.size + y.cps.size
  rw [show (x ++ y).cps = x.cps ++ y.cps from rfl, Array.size_append]
/-- how many signs and words -/
def wt (ws : List Str) : Nat := (ws.map (·.length)).sum + ws.length
theorem wt_append (a b : List Str) : wt (a ++ b) = wt a + wt b := by
  unfold wt
  rw [List.map_append, List.sum_append, List.length_append]
  omega
theorem wt_cons (a : Str) (b : List Str) : wt (a :: b) = a.length + 1 + wt b := by
  unfold wt
  rw [List.map_cons, List.sum_cons, List.length_cons]
  omega
theorem pow_ge (k : Nat) : 1 ≤ 2 ^ k := Nat.one_le_two_pow
theorem wt_words : ∀ (k : Nat) (g : G), good k g = true → wt (wordsG g) + 5 ≤ 14 * 2 ^ k
  | _, .nil, h => by simp [good] at h
  | _, .b1 _, h => by simp [good] at h
  | _, .b3 _ _ _, h => by simp [good] at h
  | 0, .both _ _, h => by simp [good] at h
  | k + 1, .both a b, h => by
    have h' : (good k a && good k b) = true := h
    rw [Bool.and_eq_true] at h'
    have ha := wt_words k a h'.1
    have hb := wt_words k b h'.2
    show wt ("both" :: (wordsG a ++ wordsG b)) + 5 ≤ 14 * 2 ^ (k + 1)
    rw [wt_cons, wt_append, Nat.pow_succ]
    have : ("both" : Str).length = 4 := rfl
    omega
  | k, .leaf w ns, h => by
    have p := pow_ge k
    have e : wt (wordsG (.leaf w ns)) ≤ 9 := by
      rcases good_leaf h with ⟨rfl, rfl⟩ | ⟨n, rfl, hn, hw⟩
      · decide
      · rcases hn with rfl | rfl | rfl <;> rcases hw with rfl | rfl | rfl <;> decide
    omega
theorem words_ne : ∀ (k : Nat) (g : G), good k g = true → wordsG g ≠ []
  | _, .nil, h => by simp [good] at h
  | _, .b1 _, h => by simp [good] at h
  | _, .b3 _ _ _, h => by simp [good] at h
  | _, .both _ _, _ => by unfold wordsG; simp
  | _, .leaf _ _, _ => by unfold wordsG; simp
theorem words_no32 : ∀ (k : Nat) (g : G), good k g = true → ∀ p ∈ wordsG g, (32 : Nat) ∉ tl p
  | _, .nil, h => by simp [good] at h
  | _, .b1 _, h => by simp [good] at h
  | _, .b3 _ _ _, h => by simp [good] at h
  | 0, .both _ _, h => by simp [good] at h
  | k + 1, .both a b, h => by
    have h' : (good k a && good k b) = true := h
    rw [Bool.and_eq_true] at h'
    intro p hp
    rcases List.mem_cons.mp (show p ∈ ("both" : Str) :: (wordsG a ++ wordsG b) from hp) with rfl | hp
    · decide
    · rcases List.mem_append.mp hp with hp | hp
      · exact words_no32 k a h'.1 p hp
      · exact words_no32 k b h'.2 p hp
  | k, .leaf w ns, h => by
    intro p hp
    rcases good_leaf h with ⟨rfl, rfl⟩ | ⟨n, rfl, hn, hw⟩
    · rcases List.mem_cons.mp (show p ∈ ("none" : Str) :: [] from hp) with rfl | hp
      · decide
      · cases hp
    · rcases List.mem_cons.mp (show p ∈ w :: [strN n] from hp) with rfl | hp
      · rcases hw with rfl | rfl | rfl <;> decide
      · rw [List.mem_singleton.mp hp]
        rcases hn with rfl | rfl | rfl <;> decide
/-! ### the text of a guesser, by the law -/
def textG : G → Str
  | .both a b => (((("both " : Str) ++ textG a) ++ (" " : Str)) ++ textG b)
  | g => Txt.join " " (wordsG g)
theorem joinL_append (S : List Nat) : ∀ (xs ys : List (List Nat)), xs ≠ [] → ys ≠ [] → joinL S (xs ++ ys) = joinL S xs ++ (S ++ joinL S ys)
  | [], _, h, _ => absurd rfl h
  | [x], y :: r, _, _ => rfl
  | [_], [], _, h => absurd rfl h
  | x :: z :: r, ys, _, h => by
    show x ++ (S ++ joinL S ((z :: r) ++ ys)) = (x ++ (S ++ joinL S (z :: r))) ++ (S ++ joinL S ys)
    rw [joinL_append S (z :: r) ys (by simp) h, List.append_assoc, List.append_assoc]
theorem str_ext {x y : Str} (h : tl x = tl y) : x = y := by
  obtain ⟨⟨a⟩⟩ := x
  obtain ⟨⟨b⟩⟩ := y
  have e : a = b := h
  rw [e]
theorem text_join : ∀ (k : Nat) (g : G), good k g = true → textG g = Txt.join " " (wordsG g)
  | _, .nil, h => by simp [good] at h
  | _, .b1 _, h => by simp [good] at h
  | _, .b3 _ _ _, h => by simp [good] at h
  | 0, .both _ _, h => by simp [good] at h
  | k + 1, .both a b, h => by
    have h' : (good k a && good k b) = true := h
    rw [Bool.and_eq_true] at h'
    have ha := text_join k a h'.1
    have hb := text_join k b h'.2
    have na := words_ne k a h'.1
    have nb := words_ne k b h'.2
    refine str_ext ?_
    show tl ((((("both " : Str) ++ textG a) ++ (" " : Str)) ++ textG b)) = _
    rw [ha, hb, tl_append, tl_append, tl_append, join_eq, join_eq, join_eq, tl_join, tl_join, tl_join]
    show _ = joinL (tl " ") (tl "both" :: (wordsG a ++ wordsG b).map tl)
    rw [List.map_append]
    have e := joinL_append (tl " ") [tl "both"] ((wordsG a).map tl ++ (wordsG b).map tl) (by simp) (by simp [na])
    rw [List.singleton_append] at e
    rw [e, joinL_append _ _ _ (by simpa using na) (by simpa using nb)]
    show (tl "both " ++ _ ++ tl " ") ++ _ = tl "both" ++ (tl " " ++ (_ ++ (tl " " ++ _)))
    rw [show tl ("both " : Str) = tl "both" ++ tl " " by decide]
    simp only [List.append_assoc]
  | _, .leaf _ _, _ => rfl
theorem join_len : ∀ (ws : List Str), (Txt.join " " ws).length ≤ wt ws := by
  intro ws
  rw [join_eq]
  induction ws with
  | nil => exact Nat.le_refl _
  | cons a r ih =>
    cases r with
    | nil =>
      rw [wt_cons]
      show a.length ≤ _
      omega
    | cons b r =>
      rw [wt_cons]
      show (a ++ " " ++ Str.join " " (b :: r)).length ≤ _
      rw [len_app, len_app]
      have : (" " : Str).length = 1 := rfl
      omega
theorem text_len {k : Nat} {g : G} (h : good k g = true) : (textG g).length + 5 ≤ 14 * 2 ^ k := by
  rw [text_join k g h]
  have a := join_len (wordsG g)
  have b := wt_words k g h
  omega
theorem read_back {k : Nat} {g : G} (h : good k g = true) : Txt.split (textG g) " " = wordsG g := by
  rw [text_join k g h]
  exact split_join (y := " ") (s := 32) (S := []) (by decide) (by decide +kernel) (words_ne k g h) (words_no32 k g h)
end St

namespace St
open PySem PySem.Spec PyProof.Rows L2
abbrev s_first_state : Stmt := topS 13
abbrev N_first_state : List Str := ["guesser"]
abbrev p_first_state : List Str := ["guesser"]
theorem sc_first_state : FnScope N_first_state p_first_state (defScope s_first_state) := ⟨rfl, rfl, rfl, by decide +kernel, rfl, by decide +kernel, by decide +kernel⟩
abbrev s_strided : Stmt := topS 14
abbrev N_strided : List Str := ["trust", "state", "place", "last", "stride", "times", "far"]
abbrev p_strided : List Str := ["trust", "state", "place"]
theorem sc_strided : FnScope N_strided p_strided (defScope s_strided) := ⟨rfl, rfl, rfl, by decide +kernel, rfl, by decide +kernel, by decide +kernel⟩
abbrev s_paired : Stmt := topS 15
abbrev N_paired : List Str := ["many", "state", "place", "last", "known", "behind", "others", "one"]
abbrev p_paired : List Str := ["many", "state", "place"]
theorem sc_paired : FnScope N_paired p_paired (defScope s_paired) := ⟨rfl, rfl, rfl, by decide +kernel, rfl, by decide +kernel, by decide +kernel⟩
abbrev s_stepped : Stmt := topS 16
abbrev N_stepped : List Str := ["guesser", "state", "place", "one", "mine", "other", "theirs", "k", "guess"]
abbrev p_stepped : List Str := ["guesser", "state", "place"]
theorem sc_stepped : FnScope N_stepped p_stepped (defScope s_stepped) := ⟨rfl, rfl, rfl, by decide +kernel, rfl, by decide +kernel, by decide +kernel⟩
section
variable {P : Program} {w : World} {K : PySem.W.Frag} {mg : Str → Option Value} {base : Heap} {f fS fP : Addr} {fd fdS fdP : FuncData}
def spFirst (K : PySem.W.Frag) (n : Nat) : Sp := fun vs H Q _ => ∃ (v : V) (g : G) (k : Nat), vs = [v] ∧ IsG K H g v ∧ good k g = true ∧ k < n ∧ k ≤ 3 ∧ ∀ v' H', Same H H' → IsS K H' (first0 g) v' → Q v' H'
theorem kn_nil {K : PySem.W.Frag} {H : Hp} {q : Addr} {o : Obj} (h : H q = some (.frz o (.tup []))) (d : o.dict = none) : IsKn K H [] q := ⟨o, [], [], h, d, .nil, .nil⟩
theorem ok_first_state (T : Nms mg) (D_first_state : Df K mg "first_state" s_first_state p_first_state f fd) : ∀ n : Nat, FnOk P w K mg base CX0 n f fd p_first_state (spFirst K n)
  | 0 => fn_zero fun vs H Q E ⟨v, g, k, _, _, _, h, _⟩ => by omega
  | n + 1 => by
    have G_first_state := ok_first_state T D_first_state n
    refine D_first_state.F.ok sc_first_state (fun vs H Q E h => ?_) (fun cdv A outer s H vs Q E hr h => ?_)
    · obtain ⟨r, m, wi, rfl, _⟩ := h
      rfl
    obtain ⟨v, g, k, rfl, hG, hg, hk, hk3, q⟩ := h
    refine ⟨_, (pss_cons (ps_if (pt_cmpR op_eq (pe_ix ix_tup (pv 0) pe_int (fun _ _ => rfl)) pe_str (nomark _))
    (pss_one (ps_ret (pe_tup (pa_cons (pe_call G_first_state (hr.mono (by first | decide | omega)) (by rfl) D_first_state.m D_first_state.F.kp D_first_state.b .nil pass0 (pa_cons (pe_ix ix_tup (pv 0) pe_int (fun _ _ => rfl)) pa_nil)) (pa_cons (pe_call G_first_state (hr.mono (by first | decide | omega)) (by rfl) D_first_state.m D_first_state.F.kp D_first_state.b .nil pass0 (pa_cons (pe_ix ix_tup (pv 0) pe_int (fun _ _ => rfl)) pa_nil)) pa_nil)))))
    (pss_nil))
  (pss_one (ps_ret (pe_ifExp (pt_cmpR op_eq (pe_ix ix_tup (pv 0) pe_int (fun _ _ => rfl)) pe_str (nomark _)) (pe_tup (pa_cons pe_non (pa_cons pe_int (pa_cons pe_int pa_nil)))) (pe_tup (pa_cons pe_non (pa_cons (pe_tupF pa_nil) pa_nil))))))), ?_⟩
    cases g with
    | leaf z ns =>
      obtain ⟨p, rfl, hp⟩ := hG
      have hz : z ≠ ("both" : Str) := (isG_good k _ hg hk3).2
      and_intros
      refine iteB0 (decide_eq_false fun x => hz (V.str.inj x)) ?_
      and_intros
      by_cases c : z = "stride"
      · refine iteB (decide_eq_true (congrArg V.str c)) ?_
        and_intros
        intro p1 n1
        exact q _ _ (same_upd n1) (by rw [show first0 (.leaf z ns) = .str none 0 0 from if_pos c]; exact ⟨p1, rfl, sqt upd_same⟩)
      · refine iteB0 (decide_eq_false fun x => c (V.str.inj x)) ?_
        and_intros
        intro p1 o1 n1 d1
        and_intros
        intro p2 n2
        refine q _ _ (by ac_rfl) ?_
        rw [show first0 (.leaf z ns) = .prs none [] from if_neg c]
        exact ⟨p2, p1, rfl, sqt upd_same, kn_nil (by infer_instance) d1⟩
    | both a b =>
      cases k with
      | zero => simp [good] at hg
      | succ k =>
      obtain ⟨p, x, y, rfl, hp, ha, hb⟩ := hG
      have h' : (good k a && good k b) = true := hg
      rw [Bool.and_eq_true] at h'
      and_intros
      refine ⟨x, a, k, rfl, ha, h'.1, by omega, by omega, fun v1 H1 s1 i1 => ?_⟩
      have hp1 := same_t s1 hp
      and_intros
      refine ⟨y, b, k, rfl, hb.same s1, h'.2, by omega, by omega, fun v2 H2 s2 i2 => ?_⟩
      and_intros
      intro p3 n3
      exact q _ _ (by ac_rfl) ⟨p3, v1, v2, rfl, sqt upd_same, (i1.same s2).same (same_upd n3), i2.same (same_upd n3)⟩
    | _ => simp [good] at hg
/-- what a step tells -/
def StepQ (K : PySem.W.Frag) (H : Hp) (Q : VK) (r : Sg × List Int) : Prop := ∀ (q l : Addr) (v : V) (H' : Hp), Same H H' → H l = none → IsS K H' r.1 v → H' l = some (.lst (r.2.map V.int)) → H' q = some (.tup [v, .ref l]) → Q (.ref q) H'
def spStrided (K : PySem.W.Frag) : Sp := fun vs H Q _ => ∃ (v : V) (l : Option Int) (tr st t p : Int), vs = [.int tr, v, .int p] ∧ IsS K H (.str l st t) v ∧ StepQ K H Q (strStep tr l st t p)
theorem ok_strided (T : Nms mg) (F : Fun K "strided" "strided" s_strided f fd) : FnOk P w K mg base CX0 1 f fd p_strided (spStrided K) := by
  refine F.ok sc_strided (fun vs H Q E h => ?_) (fun cdv A outer s H vs Q E hr h => ?_)
  · obtain ⟨v, l, tr, st, t, p, rfl, _⟩ := h
    rfl
  obtain ⟨v, l, tr, st, t, p, rfl, ⟨a, rfl, ha⟩, q⟩ := h
  refine ⟨_, (pss_cons (ps_asg (pv 1) (pg_tup rfl (pgs_cons (pg_name (i := 3) sc_strided.nd rfl (Or.inl rfl)) (pgs_cons (pg_name (i := 4) sc_strided.nd rfl (Or.inl rfl)) (pgs_cons (pg_name (i := 5) sc_strided.nd rfl (Or.inl rfl)) pgs_nil)))))
  (pss_cons (ps_if (pt_cmpR op_isN (pv 3) pe_non (nomark _))
    (pss_one (ps_ret (pe_tup (pa_cons (pe_tup (pa_cons (pv 2) (pa_cons pe_int (pa_cons pe_int pa_nil)))) (pa_cons (pe_lst pa_nil) pa_nil)))))
    (pss_nil))
  (pss_cons (ps_set (i := 6) sc_strided.nd rfl (Or.inl rfl) (pe_op op_sub (pv 2) (pv 3)))
  (pss_cons (ps_set (i := 5) sc_strided.nd rfl (Or.inl rfl) (pe_ifExp (pt_cmpR op_eq (pv 6) (pv 4) (nomark _)) (pe_op op_add (pv 5) pe_int) pe_int))
  (pss_one (ps_ret (pe_tup (pa_cons (pe_tup (pa_cons (pv 2) (pa_cons (pv 6) (pa_cons (pv 5) pa_nil)))) (pa_cons (pe_ifExp (PW.pt (pw_and (pt_cmpR op_ne (pv 6) pe_int (nomark _)) (pw_and1 (pt_cmpR op_ge (pv 5) (pv 0) (nomark _))))) (pe_lst (pa_cons (pe_op op_add (pv 2) (pv 6)) pa_nil)) (pe_lst pa_nil)) pa_nil))))))))), ?_⟩
  cases l with
  | none =>
    refine ⟨_, rfl, a, _, rfl, ha, rfl, _, _, rfl, _, _, rfl, _, _, rfl, rfl, ?_⟩
    and_intros
    intro p1 n1
    and_intros
    intro l1 nl1
    and_intros
    intro p2 n2
    have z : H l1 = none := (same_upd n1).free nl1
    exact q p2 l1 (.ref p1) _ (by ac_rfl) z ⟨p1, rfl, (by infer_instance)⟩ (by infer_instance) upd_same
  | some x =>
    refine ⟨_, rfl, a, _, rfl, ha, rfl, _, _, rfl, _, _, rfl, _, _, rfl, rfl, ?_⟩
    and_intros
    have q0 : StepQ K H Q (.str (some p) (p - x) (if p - x = st then t + 1 else 1), if p - x ≠ 0 ∧ tr ≤ (if p - x = st then t + 1 else 1) then [p + (p - x)] else []) := q
    have fin : ∀ t' : Int, StepQ K H Q (.str (some p) (p - x) t', if p - x ≠ 0 ∧ tr ≤ t' then [p + (p - x)] else []) →
        tRet (tTup (tCons (tTup (tCons (tVar 2) (tCons (tVar 6) (tCons (tVar 5) tNil)))) (tCons (tIf (tAnd (tTest (tOp rNe (tVar 6) (tC (.int 0)))) (tTest (tOp (rI0 fun i j => .bl (decide (j ≤ i))) (tVar 5) (tVar 0)))) (tLst (tCons (tOp (rI0 fun i j => .int (i + j)) (tVar 2) (tVar 6)) tNil)) (tLst tNil)) tNil)))
          { nx := fun _ H' => Q .non H', rt := Q } [some (.int tr), some (.ref a), some (.int p), some (.int x), some (.int st), some (.int t'), some (.int (p - x))] H := fun t' q1 => by
      and_intros
      intro p1 n1
      and_intros
      by_cases c1 : p - x = 0
      · refine iteB0 (by rw [decide_eq_true (congrArg V.int c1)]; rfl) ?_
        refine iteB0 rfl ?_
        rw [if_neg (fun z => z.1 c1)] at q1
        and_intros
        intro l1 nl1
        and_intros
        intro p2 n2
        exact q1 p2 l1 (.ref p1) _ (by ac_rfl) ((same_upd n1).free nl1) ⟨p1, rfl, (by infer_instance)⟩ (by infer_instance) upd_same
      · refine iteB (by rw [decide_eq_false fun z => c1 (V.int.inj z)]; rfl) ?_
        and_intros
        by_cases c2 : tr ≤ t'
        · refine iteB (decide_eq_true c2) ?_
          rw [if_pos ⟨c1, c2⟩] at q1
          and_intros
          intro l1 nl1
          and_intros
          intro p2 n2
          exact q1 p2 l1 (.ref p1) _ (by ac_rfl) ((same_upd n1).free nl1) ⟨p1, rfl, (by infer_instance)⟩ (by infer_instance) upd_same
        · refine iteB0 (decide_eq_false c2) ?_
          rw [if_neg (fun z => c2 z.2)] at q1
          and_intros
          intro l1 nl1
          and_intros
          intro p2 n2
          exact q1 p2 l1 (.ref p1) _ (by ac_rfl) ((same_upd n1).free nl1) ⟨p1, rfl, (by infer_instance)⟩ (by infer_instance) upd_same
    by_cases c : p - x = st
    · rw [if_pos c] at q0
      refine iteB (decide_eq_true (congrArg V.int c)) ?_
      refine ⟨_, rfl, _, _, rfl, rfl, ?_⟩
      exact fin _ q0
    · rw [if_neg c] at q0
      refine iteB0 (decide_eq_false fun e => c (V.int.inj e)) ?_
      exact fin _ q0
/-! ### pairs -/
theorem pr_dk {K : PySem.W.Frag} {H : Hp} : ∀ {ps : List Addr} {ku : List (Int × Addr)}, Paired (fun (p : Addr) (e : Int × Addr) => SqT K H p [.int e.1, .ref e.2]) ps ku → Paired (fun (p : Addr) (kv : Key × V) => SqT K H p [kV kv.1, kv.2]) ps (dk ku)
  | _, _, .nil => .nil
  | _, _, .cons h r => .cons h (pr_dk r)
def spPaired (K : PySem.W.Frag) : Sp := fun vs H Q _ => ∃ (v : V) (l : Option Int) (many : Int) (kn : List (Int × List Int)) (p : Int) (N : Nat), vs = [.int many, v, .int p] ∧ IsS K H (.prs l kn) v ∧ 1 ≤ many ∧ many ≤ 3 ∧ okS N (.prs l kn) ∧ N ≤ 10000 ∧
  StepQ K H Q (.prs (some p) (knStep many l kn p), lookK (knStep many l kn p) p)
theorem ok_paired (T : Nms mg) (F : Fun K "paired" "paired" s_paired f fd) : FnOk P w K mg base CX0 1 f fd p_paired (spPaired K) := by
  refine F.ok sc_paired (fun vs H Q E h => ?_) (fun cdv A outer s H vs Q E hr h => ?_)
  · obtain ⟨v, l, many, kn, p, N, rfl, _⟩ := h
    rfl
  obtain ⟨v, l, many, kn, p, N, rfl, ⟨a, b, rfl, ha, hk⟩, hm, hm3, hok, hN, q⟩ := h
  refine ⟨_, (pss_cons (ps_asg (pv 1) (pg_tup rfl (pgs_cons (pg_name (i := 3) sc_paired.nd rfl (Or.inl rfl)) (pgs_cons (pg_name (i := 4) sc_paired.nd rfl (Or.inl rfl)) pgs_nil))))
  (pss_cons (ps_set (i := 5) sc_paired.nd rfl (Or.inl rfl) (pe_callTy (call_dictT rfl) (by rfl) T.n_dict (by decide +kernel) (pa_cons (pv 4) pa_nil)))
  (Evl.pss_cut (ps_if (pt_cmpR op_notN (pv 3) pe_non (nomark _))
    (pss_cons (ps_setLc (i := 6) (own := [("one", 7)]) (g := gName 7) rfl sc_paired.nd rfl rfl (sw_true rfl rfl rfl (by decide +kernel)) (pi_tup (pe_dget2 (hu_of hr) (pv 5) (pv 3) (pe_tup pa_nil) ⟨rfl, rfl, rfl, rfl⟩)) (blkOk_by (own := [("one", 7)]) (N := N_paired) (sc := defScope s_paired) (by decide +kernel)) (fun _ _ _ _ _ => pg_name (i := 7) sc_paired.nd rfl (Or.inl rfl)) (fun _ _ _ _ _ => pts_one (pt_cmpR op_ne (pv 7) (pv 2) (nomark _))) (fun _ _ _ _ _ => (pv 7)))
    (pss_one (ps_dput (hu_of hr) (pv 5) (pv 3) (pe_callTy call_tuple_of (by rfl) T.n_tuple (by decide +kernel) (pa_cons (pe_op op_cat (pe_lst (pa_cons (pv 2) pa_nil)) (pe_slice sl_list (pv 6) po_none (po_some (pe_op op_sub (pv 0) pe_int)))) pa_nil)) rfl)))
    (pss_nil))
  (pss_one (ps_ret (pe_tup (pa_cons (pe_tup (pa_cons (pv 2) (pa_cons (pe_callTy call_tupF (by rfl) T.n_tuple (by decide +kernel) (pa_cons (pe_callB (cr_sortedItemsK rfl) (by rfl) T.n_sorted (by decide +kernel) (pa_cons (pe_bm0 PySem.F.plainAttrs_dict PySem.F.slot_dict_items PySem.F.type_dict_items mt_itemsK (pv 5)) pa_nil)) pa_nil)) pa_nil))) (pa_cons (pe_callTy call_list_of (by rfl) T.n_list (by decide +kernel) (pa_cons (pe_dget2 (hu_of hr) (pv 5) (pv 2) (pe_tup pa_nil) ⟨rfl, rfl, rfl, rfl⟩) pa_nil)) pa_nil)))))))), ?_⟩
  refine ⟨_, rfl, a, _, rfl, ha, rfl, _, _, rfl, _, _, rfl, rfl, ?_⟩
  and_intros
  obtain ⟨ob, ps, ku, e1, e2, e3, e4⟩ := hk
  obtain ⟨o1, o2, o3⟩ := hok
  have hrise : (ku.map (·.1)).Pairwise (· < ·) := by rw [e4.keys]; exact o2
  have hlen : ku.length ≤ N := by rw [← e4.len]; exact o1
  refine ⟨b, ob, ps, dk ku, rfl, e1, e2, ?_, fun D nD => ?_⟩
  · exact pr_dk e3
  rw [merge_dk hrise]
  have sD : Same H (upd H D (.dK (dk ku))) := same_upd nD
  have hD : (upd H D (.dK (dk ku))) D = some (.dK (dk ku)) := upd_same
  generalize upd H D (.dK (dk ku)) = H1 at sD hD ⊢
  refine ⟨fun σ' H' => ∃ y6 y7 mu, σ' = [some (.int many), some (.ref a), some (.int p), some (optV l), some (.ref b), some (.ref D), y6, y7] ∧ Same H H' ∧ H' D = some (.dK (dk mu)) ∧ (mu.map (·.1)).Nodup ∧
    ∀ m' : List (Int × Addr), m'.Perm mu → (m'.map (·.1)).Pairwise (· < ·) → Ku K H' (knStep many l kn p) m', ?_, fun σ' H' h => ?_⟩
  · cases l with
    | none =>
      and_intros
      refine ⟨none, none, ku, rfl, sD, hD, rise_nodup hrise, fun m' pm hm => ?_⟩
      rw [rise_uniq pm hm hrise]
      exact e4.imm (Imm.same sD)
    | some x =>
      and_intros
      refine ⟨.inl ⟨_, .inl hD⟩, _, rfl, ?_⟩
      and_intros
      intro p4 n4
      have hD4 : (upd H1 p4 (.tup [])) D = some (.dK (dk ku)) := same_upd n4 _ _ hD
      refine ⟨_, DGet.k (k := Sum.inl x) hD4, ?_⟩
      rw [val_dk]
      have e4' : Ku K (upd H1 p4 (.tup [])) kn ku := e4.imm (Imm.same (sD.trans (same_upd n4)))
      have sD4 : Same H (upd H1 p4 (.tup [])) := sD.trans (same_upd n4)
      have hemp : SqT K (upd H1 p4 (.tup [])) p4 [] := sqt upd_same
      generalize upd H1 p4 (.tup []) = H2 at hD4 e4' sD4 hemp ⊢
      obtain ⟨t, ht, hv⟩ : ∃ t, (((ku.lookup x).map V.ref).getD (.ref p4)) = .ref t ∧ SqT K H2 t ((lookK kn x).map V.int) := by
        rcases Ku.look x e4' with ⟨b1, b2⟩ | ⟨v, u, b1, b2, b3⟩
        · refine ⟨p4, by rw [b2]; rfl, ?_⟩
          unfold lookK
          rw [b1]
          exact hemp
        · refine ⟨u, by rw [b2]; rfl, ?_⟩
          unfold lookK
          rw [b1]
          exact b3
      rw [ht]
      have lk3 : (lookK kn x).length ≤ 3 := lookK_len o3 x
      refine ⟨t, rfl, ⟨_, hv⟩, fun L nL => ?_⟩
      refine lc_tup (xs := (lookK kn x).map V.int) (fun i H' => Same H2 H' ∧ H' L = some (.lst ((((lookK kn x).take i).filter fun e => decide (e ≠ p)).map V.int))) ⟨same_upd nL, upd_same⟩ (fun i H' _ h => same_t h.1 hv) (fun i y H' hi h => ?_) (fun H' h => ?_)
      · refine ⟨rfl, ?_⟩
        rw [List.getElem?_map] at hi
        cases e : (lookK kn x)[i]? with
        | none => rw [e] at hi; cases hi
        | some m =>
          rw [e] at hi
          cases Option.some.inj hi
          and_intros
          have tk : (lookK kn x).take (i + 1) = (lookK kn x).take i ++ [m] := by rw [List.take_add_one, e]; rfl
          have sz1 : (((lookK kn x).take i).filter fun e => decide (e ≠ p)).length ≤ 3 := Nat.le_trans (List.length_filter_le _ _) (by rw [List.length_take]; omega)
          by_cases c : m = p
          · refine iteB0 (by rw [decide_eq_true (congrArg V.int c)]; rfl) ?_
            refine ⟨h.1, ?_⟩
            rw [h.2, tk, List.filter_append, List.filter_cons, if_neg (by rw [decide_eq_false (fun z => z c)]; exact Bool.false_ne_true)]
            rw [List.filter_nil, List.append_nil]
          · refine iteB (by rw [decide_eq_false fun z => c (V.int.inj z)]; rfl) ?_
            refine ⟨_, rfl, _, h.2, by rw [List.length_map]; exact szl (by omega), same_mut h.1 nL, ?_⟩
            rw [upd_same, tk, List.filter_append, List.filter_cons, if_pos (decide_eq_true c), List.filter_nil, List.map_append]
            rfl
      · have tk : (lookK kn x).take (List.map V.int (lookK kn x)).length = lookK kn x := by rw [List.length_map]; exact List.take_length
        rw [tk] at h
        generalize hoth : ((lookK kn x).filter fun e => decide (e ≠ p)) = oth at h
        have lo : oth.length ≤ 3 := by rw [← hoth]; exact Nat.le_trans (List.length_filter_le _ _) lk3
        have hL : SqL K H' L (oth.map V.int) := sql h.2
        have dD : H' D = some (.dK (dk ku)) := h.1 _ _ hD4
        and_intros
        intro l1 n1
        have hL1 := same_l (same_upd (o := .lst [.int p]) n1) hL
        and_intros
        intro l2 n2
        have cutE : cutV (oth.map V.int) none (some (many - 1)) = (oth.take (many - 1).toNat).map V.int := by
          unfold cutV
          rw [HT.sIx_none]
          obtain ⟨mn, rfl⟩ : ∃ mn : Nat, many = (mn : Int) + 1 := ⟨(many - 1).toNat, by omega⟩
          have e : ((mn : Int) + 1 - 1) = ((mn : Nat) : Int) := by omega
          rw [e, HT.sIx_nat]
          rw [List.drop_zero, Int.toNat_natCast, ← List.map_take]
          congr 1
          rw [List.length_map]
          by_cases c : mn ≤ oth.length
          · rw [Nat.min_eq_left c]; rfl
          · rw [Nat.min_eq_right (by omega), List.take_of_length_le (by omega), List.take_of_length_le (by omega)]
        rw [cutE]
        have lt : (oth.take (many - 1).toNat).length ≤ 3 := by rw [List.length_take]; omega
        refine ⟨_, _, _, _, rfl, rfl, (by infer_instance), upd_same, by rw [List.length_map]; exact sz (by show 1 + _ ≤ _; omega), fun l3 n3 => ?_⟩
        refine ⟨l3, _, rfl, .inl ⟨sql upd_same, fun u nu => ?_⟩⟩
        have sF : Same H (upd (upd (upd (upd H' l1 (.lst [.int p])) l2 (.lst ((oth.take (many - 1).toNat).map V.int))) l3 (.lst ([.int p] ++ (oth.take (many - 1).toNat).map V.int))) u (.tup ([.int p] ++ (oth.take (many - 1).toNat).map V.int))) := by
          have z : Same H H' := sD4.trans h.1
          ac_rfl
        have dF : (upd (upd (upd (upd H' l1 (.lst [.int p])) l2 (.lst ((oth.take (many - 1).toNat).map V.int))) l3 (.lst ([.int p] ++ (oth.take (many - 1).toNat).map V.int))) u (.tup ([.int p] ++ (oth.take (many - 1).toNat).map V.int))) D = some (.dK (dk ku)) := by infer_instance
        have uF : (upd (upd (upd (upd H' l1 (.lst [.int p])) l2 (.lst ((oth.take (many - 1).toNat).map V.int))) l3 (.lst ([.int p] ++ (oth.take (many - 1).toNat).map V.int))) u (.tup ([.int p] ++ (oth.take (many - 1).toNat).map V.int))) u = some (.tup ((p :: oth.take (many - 1).toNat).map V.int)) := upd_same
        generalize (upd (upd (upd (upd H' l1 (.lst [.int p])) l2 (.lst ((oth.take (many - 1).toNat).map V.int))) l3 (.lst ([.int p] ++ (oth.take (many - 1).toNat).map V.int))) u (.tup ([.int p] ++ (oth.take (many - 1).toNat).map V.int))) = H7 at sF dF uF ⊢
        and_intros
        refine ⟨D, _, rfl, DPut.k (k := Sum.inl x) dF (by unfold dk; rw [List.length_map]; exact szl (by omega)), ?_⟩
        rw [put_dk]
        refine ⟨_, _, dput ku x u, rfl, same_mut sF nD, upd_same, dput_nodup hrise x u, fun m' pm hm => ?_⟩
        have em : m' = insK x u ku := rise_uniq (pm.trans (dput_perm hrise x u).symm) hm (insK_rise hrise)
        rw [em]
        have nuD : u ≠ D := ne_of uF dF (by intro z; cases z)
        have hu : SqT K (upd H7 D (.dK (dk (dput ku x u)))) u ((p :: oth.take (many - 1).toNat).map V.int) := sqt (by rw [upd_ne nuD]; exact uF)
        have hk7 : Ku K (upd H7 D (.dK (dk (dput ku x u)))) kn ku := e4.imm (Imm.same (same_mut sF nD))
        rw [← hoth] at hu
        exact Ku.ins hu hk7
  · obtain ⟨y6, y7, mu, rfl, s1, d1, nd, hmu⟩ := h
    and_intros
    refine ⟨.inr (.inr (.inl ⟨rfl, .inl ⟨_, d1⟩⟩)), D, _, rfl, rfl, d1, fun it nit => ?_⟩
    have nd' : ((mu.map rv).map (·.1)).Nodup := by
      rw [List.map_map]
      exact nd
    have d2 : (upd H' it (DX.itemsO it D)) D = some (.dK ((mu.map rv).map fun e => (Sum.inl e.1, e.2))) := by
      rw [List.map_map]
      exact same_upd nit _ _ d1
    refine ⟨it, D, mu.map rv, rfl, upd_same, d2, nd', fun H2 l2 zs s2 n2 pm hr e2 ez => ?_⟩
    obtain ⟨m', pm', em'⟩ := perm_lift rv pm mu rfl
    have hr' : (m'.map (·.1)).Pairwise (· < ·) := by
      have z : m'.map (·.1) = zs.map (·.2.1) := by
        have z := congrArg (List.map (·.1)) em'
        rw [List.map_map, List.map_map] at z
        exact z
      rw [z]
      exact hr
    have kk := hmu m' pm' hr'
    have i2 : Imm H' H2 := Imm.same ((same_upd nit).trans s2)
    have pr := pr_zs (K := K) (H := H2) em'.symm fun z hz => sqt (ez z hz)
    refine ⟨l2, _, rfl, sql e2, fun t o nt dt => ?_⟩
    have d3 : H2 D = some (.dK (dk mu)) := ((same_upd nit).trans s2) _ _ d1
    have ezs : zs.map (fun z => V.ref z.1) = (zs.map (·.1)).map V.ref := by rw [List.map_map]; rfl
    rw [ezs]
    and_intros
    intro p3 n3
    and_intros
    have d4 : (upd (upd H2 t (.frz o (.tup ((zs.map (·.1)).map V.ref)))) p3 (.tup [.int p, .ref t])) D = some (.dK (dk mu)) := by infer_instance
    refine ⟨.inl ⟨_, .inl d4⟩, _, rfl, ?_⟩
    and_intros
    intro p4 n4
    have d5 : (upd (upd (upd H2 t (.frz o (.tup ((zs.map (·.1)).map V.ref)))) p3 (.tup [.int p, .ref t])) p4 (.tup [])) D = some (.dK (dk mu)) := by infer_instance
    refine ⟨_, DGet.k (k := Sum.inl p) d5, ?_⟩
    rw [val_dk]
    have hK : IsKn K (upd H2 t (.frz o (.tup ((zs.map (·.1)).map V.ref)))) (knStep many l kn p) t := ⟨o, _, m', upd_same, dt, Paired.mapP pr fun _ _ z => same_t (same_upd nt) z, (kk.imm i2).imm (Imm.same (same_upd nt))⟩
    have sA : Same H (upd (upd H2 t (.frz o (.tup ((zs.map (·.1)).map V.ref)))) p3 (.tup [.int p, .ref t])) := by
      have z1 : Same H (upd H' it (DX.itemsO it D)) := s1.trans (same_upd nit)
      ac_rfl
    have hS : IsS K (upd (upd H2 t (.frz o (.tup ((zs.map (·.1)).map V.ref)))) p3 (.tup [.int p, .ref t])) (.prs (some p) (knStep many l kn p)) (.ref p3) := ⟨p3, t, rfl, sqt upd_same, hK.imm (Imm.same (same_upd n3))⟩
    have hlk : mu.lookup p = m'.lookup p := (lookup_perm pm' nd).symm
    have kk2 := ((kk.imm i2).imm (Imm.same (same_upd (o := .frz o (.tup ((zs.map (·.1)).map V.ref))) nt))).imm (Imm.same (same_upd (o := .tup [.int p, .ref t]) n3))
    rw [hlk]
    have done : ∀ (H5 : Hp) (l5 : Addr), Same (upd (upd H2 t (.frz o (.tup ((zs.map (·.1)).map V.ref)))) p3 (.tup [.int p, .ref t])) H5 → (upd (upd H2 t (.frz o (.tup ((zs.map (·.1)).map V.ref)))) p3 (.tup [.int p, .ref t])) l5 = none → H5 l5 = some (.lst ((lookK (knStep many l kn p) p).map V.int)) →
        [V.ref p3, V.ref l5].length ≤ sizeLine ∧ ∀ q5, H5 q5 = none → Q (.ref q5) (upd H5 q5 (.tup [.ref p3, .ref l5])) := fun H5 l5 s5 n5 e5 => by
      refine ⟨sz_2, fun q5 nq5 => ?_⟩
      exact q q5 l5 (.ref p3) _ ((sA.trans s5).trans (same_upd nq5)) (sA.free n5) ((hS.same s5).same (same_upd nq5)) (same_upd nq5 _ _ e5) upd_same
    rcases Ku.look p kk2 with ⟨b1, b2⟩ | ⟨v, u, b1, b2, b3⟩
    · rw [b2]
      refine ⟨p4, [], rfl, .inr (sqt upd_same), fun l5 nl5 => ?_⟩
      have z : Same (upd (upd H2 t (.frz o (.tup ((zs.map (·.1)).map V.ref)))) p3 (.tup [.int p, .ref t])) (upd (upd (upd (upd H2 t (.frz o (.tup ((zs.map (·.1)).map V.ref)))) p3 (.tup [.int p, .ref t])) p4 (.tup [])) l5 (.lst [])) := by ac_rfl
      refine done _ l5 z ((same_upd n4).free nl5) ?_
      rw [upd_same]
      unfold lookK
      rw [b1]
      rfl
    · rw [b2]
      refine ⟨u, _, rfl, .inr (same_t (same_upd n4) b3), fun l5 nl5 => ?_⟩
      have z : Same (upd (upd H2 t (.frz o (.tup ((zs.map (·.1)).map V.ref)))) p3 (.tup [.int p, .ref t])) (upd (upd (upd (upd H2 t (.frz o (.tup ((zs.map (·.1)).map V.ref)))) p3 (.tup [.int p, .ref t])) p4 (.tup [])) l5 (.lst (v.map V.int))) := by ac_rfl
      refine done _ l5 z ((same_upd n4).free nl5) ?_
      rw [upd_same]
      unfold lookK
      rw [b1]
      rfl
/-! ### a step of any guesser -/
theorem hd_good {k : Nat} {z : Str} {ns : List Int} (h : good k (.leaf z ns) = true) (hz : z ≠ ("none" : Str)) : ∃ n, ns = [n] ∧ 1 ≤ n ∧ n ≤ 3 := by
  rcases good_leaf h with ⟨e, _⟩ | ⟨n, e, hn, _⟩
  · exact absurd e hz
  · exact ⟨n, e, by omega, by omega⟩
theorem stepG_len : ∀ {k : Nat} {g : G} {s : Sg} {p : Int} {N : Nat}, good k g = true → Fit g s → okS N s → (stepG g s p).2.length ≤ 3 * 2 ^ k
  | _, .nil, _, _, _, h, _, _ => by simp [good] at h
  | _, .b1 _, _, _, _, h, _, _ => by simp [good] at h
  | _, .b3 _ _ _, _, _, _, h, _, _ => by simp [good] at h
  | 0, .both _ _, _, _, _, h, _, _ => by simp [good] at h
  | k + 1, .both a b, .both s t, p, N, h, f, o => by
    have h' : (good k a && good k b) = true := h
    rw [Bool.and_eq_true] at h'
    have ha := stepG_len (p := p) h'.1 f.1 o.1
    have hb := stepG_len (p := p) h'.2 f.2 o.2
    show ((stepG a s p).2 ++ (stepG b t p).2.filter _).length ≤ _
    have z := List.length_filter_le (fun e => decide (e ∉ (stepG a s p).2)) (stepG b t p).2
    rw [List.length_append, Nat.pow_succ]
    omega
  | _, .both _ _, .str _ _ _, _, _, _, f, _ => f.elim
  | _, .both _ _, .prs _ _, _, _, _, f, _ => f.elim
  | k, .leaf z ns, s, p, N, h, f, o => by
    have pw := pow_ge k
    by_cases c1 : z = "none"
    · have e : stepG (.leaf z ns) s p = (s, []) := if_pos c1
      rw [e]
      exact Nat.zero_le _
    · obtain ⟨n, rfl, h1, h3⟩ := hd_good h c1
      by_cases c2 : z = "next"
      · have e : stepG (.leaf z [n]) s p = (s, (List.range n.toNat).map fun (k : Nat) => p + (k : Int) + 1) := (if_neg c1).trans (if_pos c2)
        rw [e, List.length_map, List.length_range]
        omega
      · cases s with
        | both _ _ => exact f.elim
        | str l st t =>
          have e : stepG (.leaf z [n]) (.str l st t) p = strStep n l st t p := (if_neg c1).trans (if_neg c2)
          rw [e]
          have : (strStep n l st t p).2.length ≤ 1 := by
            unfold strStep
            cases l with
            | none => exact Nat.zero_le _
            | some x =>
              dsimp only
              split <;> (split <;> first | exact Nat.le_refl _ | exact Nat.zero_le _)
          omega
        | prs l kn =>
          have e : stepG (.leaf z [n]) (.prs l kn) p = (.prs (some p) (knStep n l kn p), lookK (knStep n l kn p) p) := (if_neg c1).trans (if_neg c2)
          rw [e]
          have := lookK_len (knStep_ok (many := n) h3 (p := p) o).2.2 p
          show (lookK _ _).length ≤ _
          omega
def spStepped (K : PySem.W.Frag) (n : Nat) : Sp := fun vs H Q _ => ∃ (v u : V) (g : G) (s : Sg) (p : Int) (k N : Nat), vs = [v, u, .int p] ∧ IsG K H g v ∧ IsS K H s u ∧ good k g = true ∧ k < n ∧ k ≤ 3 ∧ Fit g s ∧ okS N s ∧ N ≤ 10000 ∧ StepQ K H Q (stepG g s p)
theorem ok_stepped (T : Nms mg) (D_strided : Df K mg "strided" s_strided p_strided fS fdS) (D_paired : Df K mg "paired" s_paired p_paired fP fdP) (D_stepped : Df K mg "stepped" s_stepped p_stepped f fd) : ∀ n : Nat, FnOk P w K mg base CX0 (n + 1) f fd p_stepped (spStepped K n)
  | 0 => fn_zero fun vs H Q E ⟨v, u, g, s, p, k, N, _, _, _, _, h, _⟩ => by omega
  | n + 1 => by
    have G_stepped := ok_stepped T D_strided D_paired D_stepped n
    have G_strided : FnOk P w K mg base CX0 1 fS fdS p_strided (spStrided K) := ok_strided T D_strided.F
    have G_paired : FnOk P w K mg base CX0 1 fP fdP p_paired (spPaired K) := ok_paired T D_paired.F
    refine D_stepped.F.ok sc_stepped (fun vs H Q E h => ?_) (fun cdv A outer s H vs Q E hr h => ?_)
    · obtain ⟨v, u, g, s, p, k, N, rfl, _⟩ := h
      rfl
    obtain ⟨v, u, g, s, p, k, N, rfl, hG, hS, hg, hk, hk3, hf, ho, hN, q⟩ := h
    refine ⟨_, (pss_cons (ps_if (pt_cmpR op_eq (pe_ix ix_tup (pv 0) pe_int (fun _ _ => rfl)) pe_str (nomark _))
    (pss_one (ps_ret (pe_tup (pa_cons (pv 1) (pa_cons (pe_lst pa_nil) pa_nil)))))
    (pss_nil))
  (pss_cons (ps_if (pt_cmpR op_eq (pe_ix ix_tup (pv 0) pe_int (fun _ _ => rfl)) pe_str (nomark _))
    (pss_one (ps_ret (pe_tup (pa_cons (pv 1) (pa_cons (pe_lc (own := [("k", 7)]) (g := gName 7) rfl sc_stepped.nd (pi_range1 rfl T.n_range (pa_cons (pe_ix ix_tup (pv 0) pe_int (fun _ _ => rfl)) pa_nil)) (blkOk_by (own := [("k", 7)]) (N := N_stepped) (sc := defScope s_stepped) (by decide +kernel)) (fun _ _ _ _ _ => pg_name (i := 7) sc_stepped.nd rfl (Or.inl rfl)) (fun _ _ _ _ _ => pts_nil) (fun _ _ _ _ _ => (pe_op op_add (pe_op op_add (pv 2) (pv 7)) pe_int))) pa_nil)))))
    (pss_nil))
  (pss_cons (ps_if (pt_cmpR op_eq (pe_ix ix_tup (pv 0) pe_int (fun _ _ => rfl)) pe_str (nomark _))
    (pss_one (ps_ret (pe_call G_strided (hr.mono (by first | decide | omega)) (by rfl) D_strided.m D_strided.F.kp D_strided.b .nil pass0 (pa_cons (pe_ix ix_tup (pv 0) pe_int (fun _ _ => rfl)) (pa_cons (pv 1) (pa_cons (pv 2) pa_nil))))))
    (pss_nil))
  (pss_cons (ps_if (pt_cmpR op_eq (pe_ix ix_tup (pv 0) pe_int (fun _ _ => rfl)) pe_str (nomark _))
    (pss_one (ps_ret (pe_call G_paired (hr.mono (by first | decide | omega)) (by rfl) D_paired.m D_paired.F.kp D_paired.b .nil pass0 (pa_cons (pe_ix ix_tup (pv 0) pe_int (fun _ _ => rfl)) (pa_cons (pv 1) (pa_cons (pv 2) pa_nil))))))
    (pss_nil))
  (pss_cons (ps_asg (pe_call G_stepped (hr.mono (by first | decide | omega)) (by rfl) D_stepped.m D_stepped.F.kp D_stepped.b .nil pass0 (pa_cons (pe_ix ix_tup (pv 0) pe_int (fun _ _ => rfl)) (pa_cons (pe_ix ix_tup (pv 1) pe_int (fun _ _ => rfl)) (pa_cons (pv 2) pa_nil)))) (pg_tup rfl (pgs_cons (pg_name (i := 3) sc_stepped.nd rfl (Or.inl rfl)) (pgs_cons (pg_name (i := 4) sc_stepped.nd rfl (Or.inr rfl)) pgs_nil))))
  (pss_cons (ps_asg (pe_call G_stepped (hr.mono (by first | decide | omega)) (by rfl) D_stepped.m D_stepped.F.kp D_stepped.b .nil pass0 (pa_cons (pe_ix ix_tup (pv 0) pe_int (fun _ _ => rfl)) (pa_cons (pe_ix ix_tup (pv 1) pe_int (fun _ _ => rfl)) (pa_cons (pv 2) pa_nil)))) (pg_tup rfl (pgs_cons (pg_name (i := 5) sc_stepped.nd rfl (Or.inl rfl)) (pgs_cons (pg_name (i := 6) sc_stepped.nd rfl (Or.inl rfl)) pgs_nil))))
  (pss_one (ps_ret (pe_tup (pa_cons (pe_tup (pa_cons (pv 3) (pa_cons (pv 5) pa_nil))) (pa_cons (pe_op op_cat (pv 4) (pe_lc (own := [("guess", 8)]) (g := gName 8) rfl sc_stepped.nd (pi_list (pv 6)) (blkOk_by (own := [("guess", 8)]) (N := N_stepped) (sc := defScope s_stepped) (by decide +kernel)) (fun _ _ _ _ _ => pg_name (i := 8) sc_stepped.nd rfl (Or.inl rfl)) (fun _ _ _ _ _ => pts_one (pt_cmpR (notIn_seqK (K := K)) (pv 8) (pv 4) (by with_unfolding_all rfl))) (fun _ _ _ _ _ => (pv 8)))) pa_nil))))))))))), ?_⟩
    cases g with
    | leaf z ns =>
      obtain ⟨a, rfl, ha⟩ := hG
      have hz : z ≠ ("both" : Str) := (isG_good k _ hg hk3).2
      and_intros
      by_cases c1 : z = "none"
      · refine iteB (decide_eq_true (congrArg V.str c1)) ?_
        and_intros
        intro l1 n1
        and_intros
        intro p2 n2
        have q' : StepQ K H Q (s, []) := by rw [← show stepG (.leaf z ns) s p = (s, []) from if_pos c1]; exact q
        exact q' p2 l1 u _ (by ac_rfl) n1 (hS.same (by ac_rfl)) (by infer_instance) upd_same
      · refine iteB0 (decide_eq_false fun x => c1 (V.str.inj x)) ?_
        obtain ⟨m, rfl, m1, m3⟩ := hd_good hg c1
        and_intros
        by_cases c2 : z = "next"
        · refine iteB (decide_eq_true (congrArg V.str c2)) ?_
          and_intros
          intro D nD
          have q' : StepQ K H Q (s, (List.range m.toNat).map fun (k : Nat) => p + (k : Int) + 1) := by rw [← show stepG (.leaf z [m]) s p = (s, (List.range m.toNat).map fun (k : Nat) => p + (k : Int) + 1) from (if_neg c1).trans (if_pos c2)]; exact q
          refine lc_range (lo := 0) (n := m.toNat) (fun i H' => Same H H' ∧ H' D = some (.lst (((List.range i).map fun (k : Nat) => p + (k : Int) + 1).map V.int))) ⟨same_upd nD, upd_same⟩ (fun i H' hi h => ?_) (fun H' h => ?_)
          · and_intros
            refine ⟨_, h.2, by rw [List.length_map, List.length_map, List.length_range]; exact szl (by omega), same_mut h.1 nD, ?_⟩
            rw [upd_same, List.range_succ, List.map_append, List.map_append]
            have z : (p + (0 + (i : Int)) + 1) = p + (i : Int) + 1 := by omega
            simp only [z, List.map_cons, List.map_nil]
          · and_intros
            intro p2 n2
            exact q' p2 D u _ (h.1.trans (same_upd n2)) nD (hS.same (h.1.trans (same_upd n2))) (same_upd n2 _ _ h.2) upd_same
        · refine iteB0 (decide_eq_false fun x => c2 (V.str.inj x)) ?_
          and_intros
          cases s with
          | both _ _ => exact hf.elim
          | str l st t =>
            have c3 : z = "stride" := hf
            refine iteB (decide_eq_true (congrArg V.str c3)) ?_
            and_intros
            refine ⟨u, l, m, st, t, p, rfl, hS, ?_⟩
            rw [← show stepG (.leaf z [m]) (.str l st t) p = strStep m l st t p from (if_neg c1).trans (if_neg c2)]
            exact q
          | prs l kn =>
            have c3 : ¬ z = "stride" := hf
            refine iteB0 (decide_eq_false fun x => c3 (V.str.inj x)) ?_
            have c4 : z = "pairs" := by
              rcases good_leaf hg with ⟨e, _⟩ | ⟨_, _, _, e⟩
              · exact absurd e c1
              · rcases e with e | e | e
                · exact absurd e c2
                · exact absurd e c3
                · exact e
            and_intros
            refine iteB (decide_eq_true (congrArg V.str c4)) ?_
            and_intros
            refine ⟨u, l, m, kn, p, N, rfl, hS, m1, m3, ho, hN, ?_⟩
            rw [← show stepG (.leaf z [m]) (.prs l kn) p = (.prs (some p) (knStep m l kn p), lookK (knStep m l kn p) p) from (if_neg c1).trans (if_neg c2)]
            exact q
    | both a b =>
      cases k with
      | zero => simp [good] at hg
      | succ k =>
      have h' : (good k a && good k b) = true := hg
      rw [Bool.and_eq_true] at h'
      cases s with
      | str _ _ _ => exact hf.elim
      | prs _ _ => exact hf.elim
      | both s t =>
      obtain ⟨pa, x, y, rfl, hp, ha, hb⟩ := hG
      obtain ⟨pb, x', y', rfl, hp', ha', hb'⟩ := hS
      and_intros
      refine ⟨x, x', a, s, p, k, N, rfl, ha, ha', h'.1, by omega, by omega, hf.1, ho.1, hN, fun q1 l1 v1 H1 s1 n1 i1 e1 t1 => ?_⟩
      have hp1 := same_t s1 hp
      have hp1' := same_t s1 hp'
      refine ⟨q1, _, rfl, sqt t1, rfl, _, _, rfl, _, _, rfl, rfl, ?_⟩
      and_intros
      refine ⟨y, y', b, t, p, k, N, rfl, hb.same s1, hb'.same s1, h'.2, by omega, by omega, hf.2, ho.2, hN, fun q2 l2 v2 H2 s2 n2 i2 e2 t2 => ?_⟩
      refine ⟨q2, _, rfl, sqt t2, rfl, _, _, rfl, _, _, rfl, rfl, ?_⟩
      and_intros
      intro p3 n3
      and_intros
      refine ⟨⟨_, sql (same_upd n3 _ _ e2)⟩, fun L nL => ?_⟩
      have lm := stepG_len (p := p) h'.1 hf.1 ho.1
      have lt := stepG_len (p := p) h'.2 hf.2 ho.2
      have q' : StepQ K H Q (.both (stepG a s p).1 (stepG b t p).1, (stepG a s p).2 ++ (stepG b t p).2.filter fun e => decide (e ∉ (stepG a s p).2)) := q
      generalize (stepG a s p).2 = mine at e1 lm q'
      generalize (stepG b t p).2 = theirs at e2 lt q'
      have pw : 2 ^ k ≤ 4 := Nat.le_trans (Nat.pow_le_pow_right (by decide) (show k ≤ 2 by omega)) (by decide)
      have e1' : (upd H2 p3 (.tup [v1, v2])) l1 = some (.lst (mine.map V.int)) := same_upd n3 _ _ (s2 _ _ e1)
      have e2' : (upd H2 p3 (.tup [v1, v2])) l2 = some (.lst (theirs.map V.int)) := same_upd n3 _ _ e2
      have s3 : Same H (upd H2 p3 (.tup [v1, v2])) := (s1.trans s2).trans (same_upd n3)
      have t3 : (upd H2 p3 (.tup [v1, v2])) p3 = some (.tup [v1, v2]) := upd_same
      have i1' := (i1.same s2).same (same_upd (o := .tup [v1, v2]) n3)
      have i2' := i2.same (same_upd (o := .tup [v1, v2]) n3)
      generalize upd H2 p3 (.tup [v1, v2]) = H3 at e1' e2' s3 t3 i1' i2' nL ⊢
      refine lc_list (xs := theirs.map V.int) (fun i H' => Same H3 H' ∧ H' L = some (.lst (((theirs.take i).filter fun e => decide (e ∉ mine)).map V.int))) ⟨same_upd nL, upd_same⟩ (fun i H' _ h => sql (h.1 _ _ e2')) (fun i y H' hi h => ?_) (fun H' h => ?_)
      · obtain ⟨m, rfl, em, tk⟩ := at_ints hi
        and_intros
        refine ⟨l1, mine.map V.int, rfl, .inl (sql (h.1 _ _ e1')), rfl, flat_ints _, ?_⟩
        rw [inV_ints]
        by_cases c : m ∈ mine
        · rw [decide_eq_true c]
          refine ⟨_, rfl, iteB0 (b := !true) rfl ?_⟩
          refine ⟨h.1, ?_⟩
          rw [h.2, tk, filter_snoc, if_neg (by simp [c]), List.append_nil]
        · rw [decide_eq_false c]
          refine ⟨_, rfl, iteB (b := !false) rfl ?_⟩
          have z := List.length_filter_le (fun e => decide (e ∉ mine)) (theirs.take i)
          rw [List.length_take] at z
          refine ⟨_, rfl, _, h.2, by rw [List.length_map]; exact szl (by omega), same_mut h.1 nL, ?_⟩
          rw [upd_same, tk, filter_snoc, if_pos (by simp [c]), List.map_append]
          rfl
      · have tk : theirs.take (theirs.map V.int).length = theirs := by rw [List.length_map]; exact List.take_length
        rw [tk] at h
        have z := List.length_filter_le (fun e => decide (e ∉ mine)) theirs
        refine ⟨_, _, mine.map V.int, _, rfl, rfl, h.1 _ _ e1', h.2, by simp only [List.length_map]; exact sz (by omega), fun l4 n4 => ?_⟩
        and_intros
        intro p5 n5
        exact q' p5 l4 (.ref p3) _ ((s3.trans h.1).trans ((same_upd n4).trans (same_upd n5))) ((s3.trans h.1).free n4)
          ⟨p3, v1, v2, rfl, sqt (same_upd n5 _ _ (same_upd n4 _ _ (h.1 _ _ t3))), i1'.same (h.1.trans ((same_upd n4).trans (same_upd n5))), i2'.same (h.1.trans ((same_upd n4).trans (same_upd n5)))⟩
          (by rw [upd_ne (ne_of_none (upd_same (H := H')) n5), upd_same, List.map_append]) upd_same
    | _ => simp [good] at hg
end
end St

namespace St
open PySem PySem.Spec PyProof.Rows L2
abbrev s_laid : Stmt := topS 31
abbrev N_laid : List Str := ["house", "shelf", "place", "waits", "events"]
abbrev p_laid : List Str := ["house", "shelf", "place", "waits", "events"]
theorem sc_laid : FnScope N_laid p_laid (defScope s_laid) := ⟨rfl, rfl, rfl, by decide +kernel, rfl, by decide +kernel, by decide +kernel⟩
abbrev s_come : Stmt := topS 32
abbrev N_come : List Str := ["house", "shelf", "way", "events", "left", "place", "turns"]
abbrev p_come : List Str := ["house", "shelf", "way", "events"]
theorem sc_come : FnScope N_come p_come (defScope s_come) := ⟨rfl, rfl, rfl, by decide +kernel, rfl, by decide +kernel, by decide +kernel⟩
/-! ### the house -/
structure HouseC (K : PySem.W.Frag) (C : Addr) : Prop where
  cl : Cls K C
  places : NoAttr K C "places"
  room : NoAttr K C "room"
  late : NoAttr K C "late"
  most : NoAttr K C "most"
def hfl (pl rm lt ms : Int) : List (Str × V) := [("places", .int pl), ("room", .int rm), ("late", .int lt), ("most", .int ms)]
theorem hfl_places (pl rm lt ms : Int) : (hfl pl rm lt ms).lookup ("places" : Str) = some (.int pl) := by rfl
theorem hfl_room (pl rm lt ms : Int) : (hfl pl rm lt ms).lookup ("room" : Str) = some (.int rm) := by rfl
theorem hfl_late (pl rm lt ms : Int) : (hfl pl rm lt ms).lookup ("late" : Str) = some (.int lt) := by rfl
theorem hfl_most (pl rm lt ms : Int) : (hfl pl rm lt ms).lookup ("most" : Str) = some (.int ms) := by rfl
def IsH (C : Addr) (H : Hp) (h : Addr) (pl rm lt ms : Int) : Prop := ∃ dx, H h = some (.ins C dx (hfl pl rm lt ms))
theorem IsH.x {C : Addr} {H H' : Hp} {h r : Addr} {pl rm lt ms : Int} (e : IsH C H h pl rm lt ms) (s : SameX r H H') (l : LstAt H r) : IsH C H' h pl rm lt ms := by
  obtain ⟨dx, e⟩ := e
  obtain ⟨ys, l⟩ := l
  exact ⟨dx, s _ _ (fun z => by subst z; rw [l] at e; cases e) e⟩
theorem IsH.same {C : Addr} {H H' : Hp} {h : Addr} {pl rm lt ms : Int} (e : IsH C H h pl rm lt ms) (s : Same H H') : IsH C H' h pl rm lt ms := by
  obtain ⟨dx, e⟩ := e
  exact ⟨dx, s _ _ e⟩
/-! ### shelves, ways, events -/
abbrev Shelf := List (Int × Bool)
abbrev Way := List (Int × Int)
abbrev Evs := List (Str × Int)
def PrS (K : PySem.W.Frag) (H : Hp) (as : List Addr) (sh : Shelf) : Prop := Paired (fun (p : Addr) (e : Int × Bool) => SqT K H p [.int e.1, .bl e.2]) as sh
def PrW (K : PySem.W.Frag) (H : Hp) (as : List Addr) (wy : Way) : Prop := Paired (fun (p : Addr) (e : Int × Int) => SqT K H p [.int e.1, .int e.2]) as wy
def PrE (K : PySem.W.Frag) (H : Hp) (as : List Addr) (es : Evs) : Prop := Paired (fun (p : Addr) (e : Str × Int) => SqT K H p [.str e.1, .int e.2]) as es
def IsSh (K : PySem.W.Frag) (H : Hp) (a : Addr) (sh : Shelf) : Prop := ∃ as : List Addr, SqT K H a (as.map V.ref) ∧ PrS K H as sh
def IsWT (K : PySem.W.Frag) (H : Hp) (a : Addr) (wy : Way) : Prop := ∃ as : List Addr, SqT K H a (as.map V.ref) ∧ PrW K H as wy
def IsWL (K : PySem.W.Frag) (H : Hp) (a : Addr) (wy : Way) : Prop := ∃ as : List Addr, H a = some (.lst (as.map V.ref)) ∧ PrW K H as wy
def IsEv (K : PySem.W.Frag) (H : Hp) (a : Addr) (es : Evs) : Prop := ∃ as : List Addr, H a = some (.lst (as.map V.ref)) ∧ PrE K H as es
theorem IsEv.at_ {K : PySem.W.Frag} {H : Hp} {a : Addr} {es : Evs} (h : IsEv K H a es) : LstAt H a := by
  obtain ⟨as, h, _⟩ := h
  exact ⟨_, h⟩
theorem IsWL.at_ {K : PySem.W.Frag} {H : Hp} {a : Addr} {wy : Way} (h : IsWL K H a wy) : LstAt H a := by
  obtain ⟨as, h, _⟩ := h
  exact ⟨_, h⟩
theorem PrS.imm {K : PySem.W.Frag} {H H' : Hp} {as : List Addr} {sh : Shelf} (h : PrS K H as sh) (e : Imm H H') : PrS K H' as sh := Paired.mapP h fun _ _ z => e.t z
theorem PrW.imm {K : PySem.W.Frag} {H H' : Hp} {as : List Addr} {sh : Way} (h : PrW K H as sh) (e : Imm H H') : PrW K H' as sh := Paired.mapP h fun _ _ z => e.t z
theorem PrE.imm {K : PySem.W.Frag} {H H' : Hp} {as : List Addr} {sh : Evs} (h : PrE K H as sh) (e : Imm H H') : PrE K H' as sh := Paired.mapP h fun _ _ z => e.t z
theorem IsSh.imm {K : PySem.W.Frag} {H H' : Hp} {a : Addr} {sh : Shelf} (h : IsSh K H a sh) (e : Imm H H') : IsSh K H' a sh := by
  obtain ⟨as, h, p⟩ := h
  exact ⟨as, e.t h, p.imm e⟩
theorem IsWT.imm {K : PySem.W.Frag} {H H' : Hp} {a : Addr} {sh : Way} (h : IsWT K H a sh) (e : Imm H H') : IsWT K H' a sh := by
  obtain ⟨as, h, p⟩ := h
  exact ⟨as, e.t h, p.imm e⟩
theorem IsWL.x {K : PySem.W.Frag} {H H' : Hp} {a r : Addr} {sh : Way} (h : IsWL K H a sh) (n : a ≠ r) (e : SameX r H H') (l : LstAt H r) : IsWL K H' a sh := by
  obtain ⟨as, h, p⟩ := h
  exact ⟨as, e _ _ n h, p.imm (Imm.sameX e l)⟩
theorem IsWL.same {K : PySem.W.Frag} {H H' : Hp} {a : Addr} {sh : Way} (h : IsWL K H a sh) (e : Same H H') : IsWL K H' a sh := by
  obtain ⟨as, h, p⟩ := h
  exact ⟨as, e _ _ h, p.imm (Imm.same e)⟩
theorem IsEv.same {K : PySem.W.Frag} {H H' : Hp} {a : Addr} {es : Evs} (h : IsEv K H a es) (e : Same H H') : IsEv K H' a es := by
  obtain ⟨as, h, p⟩ := h
  exact ⟨as, e _ _ h, p.imm (Imm.same e)⟩
theorem IsEv.len {K : PySem.W.Frag} {H : Hp} {as : List Addr} {es : Evs} (p : PrE K H as es) : as.length = es.length := Paired.length p
/-- one more event -/
theorem IsEv.put {K : PySem.W.Frag} {H : Hp} {a p : Addr} {as : List Addr} {es : Evs} {x : Str} {i : Int} (h : H a = some (.lst (as.map V.ref))) (pe : PrE K H as es) (hp : SqT K H p [.str x, .int i]) : IsEv K (upd H a (.lst (as.map V.ref ++ [.ref p]))) a (es ++ [(x, i)]) :=
  ⟨as ++ [p], by rw [upd_same, List.map_append]; rfl, Paired.snoc (pe.imm (Imm.upd ⟨_, h⟩)) ((Imm.upd ⟨_, h⟩).t hp)⟩
theorem IsWL.put {K : PySem.W.Frag} {H : Hp} {a p : Addr} {as : List Addr} {es : Way} {x i : Int} (h : H a = some (.lst (as.map V.ref))) (pe : PrW K H as es) (hp : SqT K H p [.int x, .int i]) : IsWL K (upd H a (.lst (as.map V.ref ++ [.ref p]))) a (es ++ [(x, i)]) :=
  ⟨as ++ [p], by rw [upd_same, List.map_append]; rfl, Paired.snoc (pe.imm (Imm.upd ⟨_, h⟩)) ((Imm.upd ⟨_, h⟩).t hp)⟩
theorem pr_at {β : Type} {F : Addr → β → Prop} : ∀ {as : List Addr} {bs : List β} {i : Nat} {x : V}, Paired F as bs → (as.map V.ref)[i]? = some x → ∃ p b, x = .ref p ∧ F p b ∧ bs.take (i + 1) = bs.take i ++ [b] ∧ bs[i]? = some b
  | _, _, 0, _, .cons h _, e => ⟨_, _, (Option.some.inj e).symm, h, rfl, rfl⟩
  | _, _, i + 1, _, .cons _ t, e => by
    obtain ⟨p, b, h1, h2, h3, h4⟩ := pr_at (i := i) t e
    exact ⟨p, b, h1, h2, by rw [List.take_succ_cons, h3, List.take_succ_cons]; rfl, h4⟩
  | _, _, 0, _, .nil, e => nomatch e
  | _, _, _ + 1, _, .nil, e => nomatch e
/-! ### what they do -/
def laidP (room : Int) (sh : Shelf) (p : Int) (w : Bool) : Shelf × Evs :=
  if ((sh.length : Nat) : Int) = room then (match sh with
    | [] => ([(p, w)], [])
    | e :: r => (r ++ [(p, w)], [((if e.2 then "waste" else "leave" : Str), e.1)]))
  else (sh ++ [(p, w)], [])
def comeS (room : Int) (s : Shelf × Way × Evs) (e : Int × Int) : Shelf × Way × Evs :=
  if e.2 = 0 then ((laidP room s.1 e.1 true).1, s.2.1, s.2.2 ++ (laidP room s.1 e.1 true).2 ++ [(("come" : Str), e.1)]) else (s.1, s.2.1 ++ [(e.1, e.2 - 1)], s.2.2)
def comeP (room : Int) (sh : Shelf) (wy : Way) : Shelf × Way × Evs := wy.foldl (comeS room) (sh, [], [])
def askedP (room : Int) (sh : Shelf) (wy : Way) (p : Int) : Shelf × Way × Evs :=
  match sh.find? (fun e => decide (e.1 = p)) with
  | some e => (sh.filter (fun o => decide (o ≠ e)) ++ [(p, false)], wy, [((if e.2 then "first" else "hit" : Str), p)])
  | none => ((laidP room sh p false).1, wy.filter (fun e => decide (e.1 ≠ p)), (laidP room sh p false).2 ++ [((if (wy.filter fun e => decide (e.1 ≠ p)).length = wy.length then "miss" else "late" : Str), p)])
def startS (pl lt ms : Int) (sh : Shelf) (s : Way × Evs) (g : Int) : Way × Evs :=
  if (0 ≤ g ∧ g < pl) ∧ g ∉ sh.map (·.1) ++ s.1.map (·.1) ∧ ((s.1.length : Nat) : Int) < ms then (s.1 ++ [(g, lt)], s.2 ++ [(("start" : Str), g)]) else s
def startedP (pl lt ms : Int) (sh : Shelf) (wy : Way) (gs : List Int) : Way × Evs := gs.foldl (startS pl lt ms sh) (wy, [])
theorem laidP_len {room : Int} {sh : Shelf} {p : Int} {w : Bool} : (laidP room sh p w).1.length ≤ sh.length + 1 ∧ (laidP room sh p w).2.length ≤ 1 := by
  unfold laidP
  split
  · cases sh with
    | nil => exact ⟨Nat.le_refl _, Nat.zero_le _⟩
    | cons e r => exact ⟨by show (r ++ _).length ≤ _; rw [List.length_append]; exact Nat.le_succ _, Nat.le_refl _⟩
  · exact ⟨by show (sh ++ _).length ≤ _; rw [List.length_append]; exact Nat.le_refl _, Nat.zero_le _⟩
theorem laidP_room {room : Int} {sh : Shelf} {p : Int} {w : Bool} (h1 : 1 ≤ room) (h : ((sh.length : Nat) : Int) ≤ room) : (((laidP room sh p w).1.length : Nat) : Int) ≤ room := by
  unfold laidP
  split
  · cases sh with
    | nil => exact h1
    | cons e r =>
      show (((r ++ [(p, w)]).length : Nat) : Int) ≤ room
      rw [List.length_append]
      exact h
  · show (((sh ++ [(p, w)]).length : Nat) : Int) ≤ room
    rw [List.length_append]
    show (((sh.length + 1 : Nat) : Nat) : Int) ≤ room
    omega
theorem catA_ok {K : PySem.W.Frag} {H : Hp} {a b : Addr} {xs ys : List V} {Q : VK} (ha : SqT K H a xs) (hb : SqT K H b ys) (hz : xs.length + ys.length ≤ sizeLine) (q : ∀ p H', Same H H' → SqT K H' p (xs ++ ys) → Q (.ref p) H') : rCatA K (.ref a) (.ref b) H Q :=
  ⟨a, b, xs, ys, rfl, rfl, ha, hb, hz, fun e => q b H (Same.refl _) (by rw [e]; exact hb), fun _ e => q a H (Same.refl _) (by rw [e, List.append_nil]; exact ha), fun _ _ p np => q p _ (same_upd np) (sqt upd_same)⟩
section
variable {P : Program} {w : World} {K : PySem.W.Frag} {mg : Str → Option Value} {base : Heap} {f f1 C : Addr} {fd fd1 : FuncData}
def spLaid (K : PySem.W.Frag) (C : Addr) : Sp := fun vs H Q _ => ∃ (h a ev : Addr) (pl rm lt ms p : Int) (wt : Bool) (sh : Shelf) (es : Evs), vs = [.ref h, .ref a, .int p, .bl wt, .ref ev] ∧ IsH C H h pl rm lt ms ∧ IsSh K H a sh ∧ IsEv K H ev es ∧ 1 ≤ rm ∧ sh.length ≤ 1000 ∧ es.length ≤ 100000 ∧
  ∀ (a' : Addr) H', SameX ev H H' → IsSh K H' a' (laidP rm sh p wt).1 → IsEv K H' ev (es ++ (laidP rm sh p wt).2) → Q (.ref a') H'
theorem ok_laid (T : Nms mg) (HC : HouseC K C) (F : Fun K "laid" "laid" s_laid f fd) : FnOk P w K mg base CX0 1 f fd p_laid (spLaid K C) := by
  refine F.ok sc_laid (fun vs H Q E h => ?_) (fun cdv A outer s H vs Q E hr h => ?_)
  · obtain ⟨h, a, ev, pl, rm, lt, ms, p, wt, sh, es, rfl, _⟩ := h
    rfl
  obtain ⟨h, a, ev, pl, rm, lt, ms, p, wt, sh, es, rfl, hh, ⟨as, hs, pr⟩, ⟨bs, he, pe⟩, h1, hl, hes, q⟩ := h
  refine ⟨_, (pss_cons (ps_if (pt_cmpR op_eq (pe_callB call_len_seq (by rfl) T.n_len (by decide +kernel) (pa_cons (pv 1) pa_nil)) (pe_fld (pv 0) rfl) (nomark _))
    (pss_cons (ps_expr (pe_bm PySem.F.plainAttrs_list PySem.F.slot_list_append PySem.F.type_list_append mt_append (pv 4) (pa_cons (pe_tup (pa_cons (pe_ifExp (pt_val (pe_ix ix_tup (pe_ix ix_tup (pv 1) pe_int (fun _ _ => rfl)) pe_int (fun _ _ => rfl))) pe_str pe_str) (pa_cons (pe_ix ix_tup (pe_ix ix_tup (pv 1) pe_int (fun _ _ => rfl)) pe_int (fun _ _ => rfl)) pa_nil))) pa_nil)))
    (pss_one (ps_set (i := 1) sc_laid.nd rfl (Or.inl rfl) (pe_slice sl_tupA (pv 1) (po_some pe_int) po_none))))
    (pss_nil))
  (pss_one (ps_ret (pe_op op_catA (pv 1) (pe_tup (pa_cons (pe_tup (pa_cons (pv 2) (pa_cons (pv 3) pa_nil))) pa_nil)))))), ?_⟩
  have la : as.length = sh.length := Paired.length pr
  obtain ⟨dx, hh'⟩ := id hh
  and_intros
  refine ⟨h, C, dx, _, _, rfl, hh', HC.cl, HC.room, hfl_room _ _ _ _, ?_⟩
  have e0 : (((as.map V.ref).length : Nat) : Int) = ((sh.length : Nat) : Int) := by rw [List.length_map, la]
  and_intros
  by_cases c : ((sh.length : Nat) : Int) = rm
  · refine iteB (decide_eq_true (by rw [e0, c])) ?_
    cases sh with
    | nil => exact absurd c (by show ¬ (0 : Int) = rm; omega)
    | cons e r =>
    cases pr with
    | @cons a0 _ as0 _ p0 pr =>
    have hlaid : laidP rm (e :: r) p wt = (r ++ [(p, wt)], [((if e.2 then "waste" else "leave" : Str), e.1)]) := if_pos c
    rw [hlaid] at q
    obtain ⟨e1, e2⟩ := e
    and_intros
    refine ⟨.inl ⟨rfl, _, sql he⟩, ?_⟩
    and_intros
    have lb : bs.length = es.length := Paired.length pe
    have fin : ∀ (x : Str) (p1 : Addr), H p1 = none → ∀ H1, H1 = upd (upd H p1 (.tup [.str x, .int e1])) ev (.lst (bs.map V.ref ++ [.ref p1])) → SameX ev H H1 ∧ IsEv K H1 ev (es ++ [(x, e1)]) ∧ SqT K H1 a (V.ref a0 :: as0.map V.ref) ∧ PrS K H1 as0 r := fun x p1 n1 H1 e => by
      subst e
      have he1 := same_upd (o := .tup [.str x, .int e1]) n1 _ _ he
      have i1 : Imm H (upd H p1 (.tup [.str x, .int e1])) := Imm.same (same_upd n1)
      have i2 := i1.trans (Imm.upd (o := .lst (bs.map V.ref ++ [.ref p1])) ⟨_, he1⟩)
      exact ⟨(SameX.of (same_upd n1)).trans SameX.upd, IsEv.put he1 (pe.imm i1) (sqt upd_same), i2.t hs, PrS.imm pr i2⟩
    have sl : ∀ n : Nat, n ≤ 1000 → ¬ (HT.sIx (n + 1) 0 (some 1) = 0 ∧ HT.sIx (n + 1) (n + 1) none = n + 1) := fun n _ z => by
      have := z.1
      rw [show (1 : Int) = ((1 : Nat) : Int) from rfl, HT.sIx_nat] at this
      omega
    have la0 : as0.length = r.length := Nat.succ.inj la
    have lr : r.length + 1 ≤ 1000 := hl
    cases e2 with
    | true =>
      refine iteB rfl ?_
      and_intros
      intro p1 n1
      and_intros
      refine ⟨_, _, _, rfl, rfl, same_upd n1 _ _ he, by rw [List.length_map, lb]; exact szl (by omega), ?_⟩
      obtain ⟨s1, v1, t1, r1⟩ := fin "waste" p1 n1 _ rfl
      generalize upd (upd H p1 (.tup [.str "waste", .int e1])) ev (.lst (bs.map V.ref ++ [.ref p1])) = H1 at s1 v1 t1 r1 ⊢
      and_intros
      refine ⟨_, _, rfl, t1, fun z => absurd z (by show ¬ (HT.sIx ((as0.map V.ref).length + 1) 0 (some 1) = 0 ∧ HT.sIx ((as0.map V.ref).length + 1) ((as0.map V.ref).length + 1) none = (as0.map V.ref).length + 1); exact sl _ (by rw [List.length_map]; omega)), fun _ p2 n2 => ?_⟩
      rw [cut_from (by decide)]
      have t2 : SqT K (upd H1 p2 (.tup (as0.map V.ref))) p2 (as0.map V.ref) := sqt upd_same
      have s2 : Same H1 (upd H1 p2 (.tup (as0.map V.ref))) := same_upd n2
      rw [show List.drop (Int.toNat 1) (V.ref a0 :: as0.map V.ref) = as0.map V.ref from rfl]
      generalize upd H1 p2 (.tup (as0.map V.ref)) = H2 at t2 s2 ⊢
      and_intros
      intro p3 n3
      and_intros
      intro p4 n4
      refine catA_ok (same_t (same_upd n4) (same_t (same_upd n3) t2)) (sqt upd_same) (by rw [List.length_map]; exact sz (by show as0.length + 1 ≤ _; omega)) fun p5 H5 s5 h5 => ?_
      have s : Same H1 H5 := (s2.trans ((same_upd n3).trans (same_upd n4))).trans s5
      exact q p5 H5 (s1.trans (SameX.of s)) ⟨as0 ++ [p3], by rw [List.map_append]; exact h5, Paired.snoc (r1.imm (Imm.same s)) (sqt (s5 _ _ (same_upd n4 _ _ upd_same)))⟩ (v1.same s)
    | false =>
      refine iteB0 rfl ?_
      and_intros
      intro p1 n1
      and_intros
      refine ⟨_, _, _, rfl, rfl, same_upd n1 _ _ he, by rw [List.length_map, lb]; exact szl (by omega), ?_⟩
      obtain ⟨s1, v1, t1, r1⟩ := fin "leave" p1 n1 _ rfl
      generalize upd (upd H p1 (.tup [.str "leave", .int e1])) ev (.lst (bs.map V.ref ++ [.ref p1])) = H1 at s1 v1 t1 r1 ⊢
      and_intros
      refine ⟨_, _, rfl, t1, fun z => absurd z (by show ¬ (HT.sIx ((as0.map V.ref).length + 1) 0 (some 1) = 0 ∧ HT.sIx ((as0.map V.ref).length + 1) ((as0.map V.ref).length + 1) none = (as0.map V.ref).length + 1); exact sl _ (by rw [List.length_map]; omega)), fun _ p2 n2 => ?_⟩
      rw [cut_from (by decide)]
      have t2 : SqT K (upd H1 p2 (.tup (as0.map V.ref))) p2 (as0.map V.ref) := sqt upd_same
      have s2 : Same H1 (upd H1 p2 (.tup (as0.map V.ref))) := same_upd n2
      rw [show List.drop (Int.toNat 1) (V.ref a0 :: as0.map V.ref) = as0.map V.ref from rfl]
      generalize upd H1 p2 (.tup (as0.map V.ref)) = H2 at t2 s2 ⊢
      and_intros
      intro p3 n3
      and_intros
      intro p4 n4
      refine catA_ok (same_t (same_upd n4) (same_t (same_upd n3) t2)) (sqt upd_same) (by rw [List.length_map]; exact sz (by show as0.length + 1 ≤ _; omega)) fun p5 H5 s5 h5 => ?_
      have s : Same H1 H5 := (s2.trans ((same_upd n3).trans (same_upd n4))).trans s5
      exact q p5 H5 (s1.trans (SameX.of s)) ⟨as0 ++ [p3], by rw [List.map_append]; exact h5, Paired.snoc (r1.imm (Imm.same s)) (sqt (s5 _ _ (same_upd n4 _ _ upd_same)))⟩ (v1.same s)
  · refine iteB0 (decide_eq_false fun z => c (by rw [← e0]; exact V.int.inj z)) ?_
    have hlaid : laidP rm sh p wt = (sh ++ [(p, wt)], []) := if_neg c
    rw [hlaid] at q
    and_intros
    intro p1 n1
    and_intros
    intro p2 n2
    refine catA_ok (same_t (same_upd n2) (same_t (same_upd n1) hs)) (sqt upd_same) (by rw [List.length_map]; exact sz (by show as.length + 1 ≤ _; omega)) fun p3 H3 s3 h3 => ?_
    have s : Same H H3 := ((same_upd n1).trans (same_upd n2)).trans s3
    refine q p3 H3 (SameX.of s) ⟨as ++ [p1], by rw [List.map_append]; exact h3, Paired.snoc (pr.imm (Imm.same s)) (sqt (s3 _ _ (same_upd n2 _ _ upd_same)))⟩ ?_
    rw [List.append_nil]
    exact ⟨bs, s _ _ he, pe.imm (Imm.same s)⟩
def spCome (K : PySem.W.Frag) (C : Addr) : Sp := fun vs H Q _ => ∃ (h a b ev : Addr) (pl rm lt ms : Int) (sh : Shelf) (wy : Way), vs = [.ref h, .ref a, .ref b, .ref ev] ∧ IsH C H h pl rm lt ms ∧ IsSh K H a sh ∧ IsWT K H b wy ∧ IsEv K H ev [] ∧ 1 ≤ rm ∧ sh.length ≤ 100 ∧ wy.length ≤ 100 ∧
  ∀ (q a' b' : Addr) H', SameX ev H H' → H b' = none → b' ≠ ev → SqT K H' q [.ref a', .ref b'] → IsSh K H' a' (comeP rm sh wy).1 → IsWL K H' b' (comeP rm sh wy).2.1 → IsEv K H' ev (comeP rm sh wy).2.2 → Q (.ref q) H'
theorem comeP_len (room : Int) (sh : Shelf) : ∀ (wy : Way) (i : Nat), ((wy.take i).foldl (comeS room) (sh, [], [])).1.length ≤ sh.length + i ∧ ((wy.take i).foldl (comeS room) (sh, [], [])).2.1.length ≤ i ∧ ((wy.take i).foldl (comeS room) (sh, [], [])).2.2.length ≤ 2 * i
  | wy, 0 => by rw [List.take_zero]; exact ⟨Nat.le_refl _, Nat.le_refl _, Nat.le_refl _⟩
  | wy, i + 1 => by
    have ih := comeP_len room sh wy i
    rw [List.take_add_one, List.foldl_append]
    generalize (wy.take i).foldl (comeS room) (sh, [], []) = s at ih
    cases e : wy[i]? with
    | none => exact ⟨Nat.le_succ_of_le ih.1, Nat.le_succ_of_le ih.2.1, Nat.le_trans ih.2.2 (by omega)⟩
    | some x =>
      show (comeS room s x).1.length ≤ _ ∧ (comeS room s x).2.1.length ≤ _ ∧ (comeS room s x).2.2.length ≤ _
      have z := laidP_len (room := room) (sh := s.1) (p := x.1) (w := true)
      unfold comeS
      split
      · refine ⟨by show (laidP room s.1 x.1 true).1.length ≤ _; omega, Nat.le_succ_of_le ih.2.1, ?_⟩
        show (s.2.2 ++ (laidP room s.1 x.1 true).2 ++ [_]).length ≤ _
        rw [List.length_append, List.length_append]
        show _ + _ + 1 ≤ _
        omega
      · refine ⟨Nat.le_succ_of_le ih.1, ?_, Nat.le_trans ih.2.2 (by omega)⟩
        show (s.2.1 ++ [_]).length ≤ _
        rw [List.length_append]
        exact Nat.succ_le_succ ih.2.1
theorem ok_come (T : Nms mg) (HC : HouseC K C) (D_laid : Df K mg "laid" s_laid p_laid f1 fd1) (F : Fun K "come" "come" s_come f fd) : FnOk P w K mg base CX0 2 f fd p_come (spCome K C) := by
  have G_laid : FnOk P w K mg base CX0 1 f1 fd1 p_laid (spLaid K C) := ok_laid T HC D_laid.F
  refine F.ok sc_come (fun vs H Q E h => ?_) (fun cdv A outer s H vs Q E hr h => ?_)
  · obtain ⟨h, a, b, ev, pl, rm, lt, ms, sh, wy, rfl, _⟩ := h
    rfl
  obtain ⟨h, a, b, ev, pl, rm, lt, ms, sh, wy, rfl, hh, hs, ⟨bs, hb, pb⟩, he, h1, hls, hlw, q⟩ := h
  refine ⟨_, (pss_cons (ps_set (i := 4) sc_come.nd rfl (Or.inl rfl) (pe_lst pa_nil))
  (pss_cons (ps_for PassesOwn.never rfl (pi_tup (pv 2)) (pg_tup rfl (pgs_cons (pg_name (i := 5) sc_come.nd rfl (Or.inl rfl)) (pgs_cons (pg_name (i := 6) sc_come.nd rfl (Or.inl rfl)) pgs_nil)))
    (pss_one (ps_if (pt_cmpR op_eq (pv 6) pe_int (nomark _))
      (pss_cons (ps_set (i := 1) sc_come.nd rfl (Or.inl rfl) (pe_call G_laid (hr.mono (by first | decide | omega)) (by rfl) D_laid.m D_laid.F.kp D_laid.b .nil pass0 (pa_cons (pv 0) (pa_cons (pv 1) (pa_cons (pv 5) (pa_cons pe_bl (pa_cons (pv 3) pa_nil)))))))
      (pss_one (ps_expr (pe_bm PySem.F.plainAttrs_list PySem.F.slot_list_append PySem.F.type_list_append mt_append (pv 3) (pa_cons (pe_tup (pa_cons pe_str (pa_cons (pv 5) pa_nil))) pa_nil)))))
      (pss_one (ps_expr (pe_bm PySem.F.plainAttrs_list PySem.F.slot_list_append PySem.F.type_list_append mt_append (pv 4) (pa_cons (pe_tup (pa_cons (pv 5) (pa_cons (pe_op op_sub (pv 6) pe_int) pa_nil))) pa_nil)))))))
  (pss_one (ps_ret (pe_tup (pa_cons (pv 1) (pa_cons (pv 4) pa_nil))))))), ?_⟩
  and_intros
  intro D nD
  have nDe : D ≠ ev := (ne_of_none he.at_.choose_spec nD).symm
  and_intros
  refine ⟨⟨_, same_t (same_upd nD) hb⟩, ?_⟩
  refine for_tup (xs := bs.map V.ref) (fun i σ H' => ∃ y5 y6 a' , σ = [some (.ref h), some (.ref a'), some (.ref b), some (.ref ev), some (.ref D), y5, y6] ∧ SameX ev H H' ∧ IsSh K H' a' ((wy.take i).foldl (comeS rm) (sh, [], [])).1 ∧ IsWL K H' D ((wy.take i).foldl (comeS rm) (sh, [], [])).2.1 ∧ IsEv K H' ev ((wy.take i).foldl (comeS rm) (sh, [], [])).2.2)
    ⟨none, none, a, rfl, SameX.of (same_upd nD), hs.imm (Imm.same (same_upd nD)), ⟨[], upd_same, .nil⟩, he.same (same_upd nD)⟩ (fun i σ H' _ h => ?_) (fun i x σ H' hi h => ?_) (fun σ H' h => ?_)
  · obtain ⟨y5, y6, a', rfl, sX, _⟩ := h
    exact sX.t he.at_ hb
  · obtain ⟨y5, y6, a', rfl, sX, i1, i2, i3⟩ := h
    have im := Imm.sameX sX he.at_
    obtain ⟨p, e, hp, hpr, tk, _⟩ := pr_at pb hi
    subst hp
    have he2 := im.t hpr
    refine ⟨p, _, rfl, he2, rfl, _, _, rfl, _, _, rfl, rfl, ?_⟩
    have cl := comeP_len rm sh wy i
    have hh' := hh.x sX he.at_
    have efold : (wy.take (i + 1)).foldl (comeS rm) (sh, [], []) = comeS rm ((wy.take i).foldl (comeS rm) (sh, [], [])) e := by rw [tk, List.foldl_append]; rfl
    have hi' : i < wy.length := by
      have := (List.getElem?_eq_some_iff.mp hi).1
      rw [List.length_map, Paired.length pb] at this
      exact this
    rw [efold]
    generalize (wy.take i).foldl (comeS rm) (sh, [], []) = st at i1 i2 i3 cl efold
    obtain ⟨e1, e2⟩ := e
    and_intros
    by_cases c : e2 = 0
    · refine iteB (decide_eq_true (congrArg V.int c)) ?_
      have ec : comeS rm st (e1, e2) = ((laidP rm st.1 e1 true).1, st.2.1, st.2.2 ++ (laidP rm st.1 e1 true).2 ++ [(("come" : Str), e1)]) := if_pos c
      rw [ec]
      and_intros
      refine ⟨h, a', ev, pl, rm, lt, ms, e1, true, st.1, st.2.2, rfl, hh', i1, i3, h1, by omega, by omega, fun a2 H2 s2 j1 j3 => ?_⟩
      have j2 := i2.x nDe s2 i3.at_
      have ll := laidP_len (room := rm) (sh := st.1) (p := e1) (w := true)
      and_intros
      obtain ⟨es, q1, q2⟩ := j3
      refine ⟨.inl ⟨rfl, _, sql q1⟩, ?_⟩
      and_intros
      intro p1 n1
      have q1' := same_upd (o := .tup [.str "come", .int e1]) n1 _ _ q1
      have im1 : Imm H2 (upd H2 p1 (.tup [.str "come", .int e1])) := Imm.same (same_upd n1)
      have les : es.length = (st.2.2 ++ (laidP rm st.1 e1 true).2).length := Paired.length q2
      rw [List.length_append] at les
      and_intros
      refine ⟨_, _, _, rfl, rfl, q1', by rw [List.length_map]; exact szl (by omega), ?_⟩
      refine ⟨_, _, a2, rfl, ((sX.trans s2).trans (SameX.of (same_upd n1))).trans SameX.upd, (j1.imm im1).imm (Imm.upd ⟨_, q1'⟩), (j2.same (same_upd n1)).x nDe SameX.upd ⟨_, q1'⟩, IsEv.put q1' (q2.imm im1) (sqt upd_same)⟩
    · refine iteB0 (decide_eq_false fun z => c (V.int.inj z)) ?_
      have ec : comeS rm st (e1, e2) = (st.1, st.2.1 ++ [(e1, e2 - 1)], st.2.2) := if_neg c
      rw [ec]
      and_intros
      obtain ⟨es, q1, q2⟩ := i2
      refine ⟨.inl ⟨rfl, _, sql q1⟩, ?_⟩
      and_intros
      intro p1 n1
      have q1' := same_upd (o := .tup [.int e1, .int (e2 - 1)]) n1 _ _ q1
      have im1 : Imm H' (upd H' p1 (.tup [.int e1, .int (e2 - 1)])) := Imm.same (same_upd n1)
      have les : es.length = st.2.1.length := Paired.length q2
      and_intros
      refine ⟨_, _, _, rfl, rfl, q1', by rw [List.length_map]; exact szl (by omega), ?_⟩
      obtain ⟨fs, v1, v2⟩ := i3.same (same_upd (o := .tup [.int e1, .int (e2 - 1)]) n1)
      refine ⟨_, _, a', rfl, samex_mut (sX.trans (SameX.of (same_upd n1))) nD, (i1.imm im1).imm (Imm.upd ⟨_, q1'⟩), IsWL.put q1' (q2.imm im1) (sqt upd_same), ⟨fs, by rw [upd_ne nDe.symm]; exact v1, v2.imm (Imm.upd ⟨_, q1'⟩)⟩⟩
  · obtain ⟨y5, y6, a', rfl, sX, i1, i2, i3⟩ := h
    have ew : wy.take (bs.map V.ref).length = wy := by rw [List.length_map, Paired.length pb]; exact List.take_length
    rw [ew] at i1 i2 i3
    and_intros
    intro p1 n1
    exact q p1 a' D _ (sX.trans (SameX.of (same_upd n1))) nD nDe (sqt upd_same) (i1.imm (Imm.same (same_upd n1))) (i2.same (same_upd n1)) (i3.same (same_upd n1))
end
end St

namespace St
open PySem PySem.Spec PyProof.Rows L2
abbrev s_need_setting : Stmt := topS 25
abbrev N_need_setting : List Str := ["setting", "memory", "room", "late", "most", "one"]
abbrev p_need_setting : List Str := ["setting"]
theorem sc_need_setting : FnScope N_need_setting p_need_setting (defScope s_need_setting) := ⟨rfl, rfl, rfl, by decide +kernel, rfl, by decide +kernel, by decide +kernel⟩
abbrev s_House___init__ : Stmt := inClass (topS 29) 0
abbrev N_House___init__ : List Str := ["self", "setting", "memory", "room", "late", "most"]
abbrev p_House___init__ : List Str := ["self", "setting"]
theorem sc_House___init__ : FnScope N_House___init__ p_House___init__ (defScope s_House___init__) := ⟨rfl, rfl, rfl, by decide +kernel, rfl, by decide +kernel, by decide +kernel⟩
/-- the program's numbers -/
structure Cns (mg : Str → Option Value) : Prop where
  MOST_PLACES : ∃ t, mg "MOST_PLACES" = some (.int 32 t)
  MOST_NUMBER : ∃ t, mg "MOST_NUMBER" = some (.int 99 t)
  MOST_ROOM : ∃ t, mg "MOST_ROOM" = some (.int 8 t)
  MOST_LATE : ∃ t, mg "MOST_LATE" = some (.int 4 t)
  MOST_WAY : ∃ t, mg "MOST_WAY" = some (.int 4 t)
  MOST_DEEDS : ∃ t, mg "MOST_DEEDS" = some (.int 100 t)
/-- a class with its __init__ -/
structure ClassD (K : PySem.W.Frag) (mg : Str → Option Value) (x : Str) (C fI : Addr) : Prop where
  g : mg x = some (.ref C)
  M : Mk K C fI
  cl : Cls K C
structure Mf (K : PySem.W.Frag) (C : Addr) (x q : Str) (st : Stmt) (ps : List Str) (f : Addr) (fd : FuncData) : Prop where
  F : Fun K x q st f fd
  b : Binds K fd ps []
  m : Meth K C x f
/-- a setting: memory, room, late, most -/
structure Stg where
  mem : List Int
  rm : Int
  lt : Int
  ms : Int
structure Stg.Good (s : Stg) : Prop where
  m1 : 1 ≤ s.mem.length
  m2 : s.mem.length ≤ 32
  m3 : ∀ x ∈ s.mem, 0 ≤ x ∧ x ≤ 99
  r1 : 1 ≤ s.rm
  r2 : s.rm ≤ 8
  l1 : 0 ≤ s.lt
  l2 : s.lt ≤ 4
  w1 : 1 ≤ s.ms
  w2 : s.ms ≤ 4
def IsSet (K : PySem.W.Frag) (H : Hp) (a : Addr) (s : Stg) : Prop := ∃ m, SqT K H a [.ref m, .int s.rm, .int s.lt, .int s.ms] ∧ SqT K H m (s.mem.map V.int)
theorem IsSet.imm {K : PySem.W.Frag} {H H' : Hp} {a : Addr} {s : Stg} (h : IsSet K H a s) (e : Imm H H') : IsSet K H' a s := by
  obtain ⟨m, h1, h2⟩ := h
  exact ⟨m, e.t h1, e.t h2⟩
/-- a deed: read, or write what -/
abbrev Deed := Int × Option Int
def IsDeed (K : PySem.W.Frag) (H : Hp) (a : Addr) : Deed → Prop
  | (p, none) => SqT K H a [.str "read", .int p]
  | (p, some v) => SqT K H a [.str "write", .int p, .int v]
theorem IsDeed.imm {K : PySem.W.Frag} {H H' : Hp} {a : Addr} : ∀ {d : Deed}, IsDeed K H a d → Imm H H' → IsDeed K H' a d
  | (_, none), h, e => Imm.t e h
  | (_, some _), h, e => Imm.t e h
def Deed.Good (pl : Int) : Deed → Prop
  | (p, none) => 0 ≤ p ∧ p < pl
  | (p, some v) => (0 ≤ p ∧ p < pl) ∧ 0 ≤ v ∧ v ≤ 99
def PrD (K : PySem.W.Frag) (H : Hp) (as : List Addr) (ds : List Deed) : Prop := Paired (fun (p : Addr) (d : Deed) => IsDeed K H p d) as ds
theorem PrD.imm {K : PySem.W.Frag} {H H' : Hp} {as : List Addr} {ds : List Deed} (h : PrD K H as ds) (e : Imm H H') : PrD K H' as ds := Paired.mapP h fun _ _ z => z.imm e
section
variable {P : Program} {w : World} {K : PySem.W.Frag} {mg : Str → Option Value} {base : Heap} {f f1 f2 f3 f4 C dS dM : Addr} {fd fd1 fd2 fd3 fd4 : FuncData}
def spNeedSet (K : PySem.W.Frag) : Sp := fun vs H Q _ => ∃ (a : Addr) (s : Stg), vs = [.ref a] ∧ IsSet K H a s ∧ s.Good ∧ ∀ H', Same H H' → Q .non H'
theorem ok_need_setting (T : Nms mg) (Cn : Cns mg) (F : Fun K "need_setting" "need_setting" s_need_setting f fd) : FnOk P w K mg base CX0 1 f fd p_need_setting (spNeedSet K) := by
  refine F.ok sc_need_setting (fun vs H Q E h => ?_) (fun cdv A outer s H vs Q E hr h => ?_)
  · obtain ⟨a, s, rfl, _⟩ := h
    rfl
  obtain ⟨a, s, rfl, ⟨m, h1, h2⟩, g, q⟩ := h
  refine ⟨_, (pss_cons (ps_asg (pv 0) (pg_tup rfl (pgs_cons (pg_name (i := 1) sc_need_setting.nd rfl (Or.inl rfl)) (pgs_cons (pg_name (i := 2) sc_need_setting.nd rfl (Or.inl rfl)) (pgs_cons (pg_name (i := 3) sc_need_setting.nd rfl (Or.inl rfl)) (pgs_cons (pg_name (i := 4) sc_need_setting.nd rfl (Or.inl rfl)) pgs_nil))))))
  (pss_cons (ps_if (PW.pt (pw_or (pt_not (pt_chain op_le op_le pe_int (pe_callB call_len_seq (by rfl) T.n_len (by decide +kernel) (pa_cons (pv 1) pa_nil)) (pe_gint (by rfl) Cn.MOST_PLACES))) (pw_or1 (pt_cmpR (op_neD hr.units) (pe_lc (own := [("one", 5)]) (g := gName 5) rfl sc_need_setting.nd (pi_tup (pv 1)) (blkOk_by (own := [("one", 5)]) (N := N_need_setting) (sc := defScope s_need_setting) (by decide +kernel)) (fun _ _ _ _ _ => pg_name (i := 5) sc_need_setting.nd rfl (Or.inl rfl)) (fun _ _ _ _ _ => pts_one (pt_not (pt_chain op_le op_le pe_int (pv 5) (pe_gint (by rfl) Cn.MOST_NUMBER)))) (fun _ _ _ _ _ => (pv 5))) (pe_lst pa_nil) (nomark _)))))
    (pss_one (ps_never))
    (pss_nil))
  (pss_cons (ps_if (pt_not (pt_chain op_le op_le pe_int (pv 2) (pe_gint (by rfl) Cn.MOST_ROOM)))
    (pss_one (ps_never))
    (pss_nil))
  (pss_cons (ps_if (pt_not (pt_chain op_le op_le pe_int (pv 3) (pe_gint (by rfl) Cn.MOST_LATE)))
    (pss_one (ps_never))
    (pss_nil))
  (pss_one (ps_if (pt_not (pt_chain op_le op_le pe_int (pv 4) (pe_gint (by rfl) Cn.MOST_WAY)))
    (pss_one (ps_never))
    (pss_nil))))))), ?_⟩
  have lm : (s.mem.map V.int).length = s.mem.length := List.length_map _
  have g1 := g.m1
  have g2 := g.m2
  refine ⟨_, rfl, a, _, rfl, h1, rfl, _, _, rfl, _, _, rfl, _, _, rfl, _, _, rfl, rfl, ?_⟩
  and_intros
  refine iteB (decide_eq_true (by rw [lm]; omega)) ?_
  refine ⟨_, _, rfl, rfl, _, rfl, ?_⟩
  rw [decide_eq_true (show (((s.mem.map V.int).length : Nat) : Int) ≤ 32 by rw [lm]; omega)]
  refine iteB0 (b := !true) rfl ?_
  and_intros
  refine ⟨⟨_, h2⟩, fun D nD => ?_⟩
  refine lc_tup (xs := s.mem.map V.int) (fun i H' => Same H H' ∧ H' D = some (.lst [])) ⟨same_upd nD, upd_same⟩ (fun i H' _ h => same_t h.1 h2) (fun i y H' hi h => ?_) (fun H' h => ?_)
  · obtain ⟨x, rfl, ex, _⟩ := at_ints hi
    have gx := g.m3 x (List.mem_of_getElem? ex)
    and_intros
    refine iteB (decide_eq_true gx.1) ?_
    refine ⟨_, _, rfl, rfl, _, rfl, ?_⟩
    rw [decide_eq_true gx.2]
    exact iteB0 (b := !true) rfl h
  · and_intros
    intro L nL
    refine ⟨.list (([] : List Int).map .int), .list (([] : List Int).map .int), dp_ints (sql (same_upd nL _ _ h.2)), dp_ints (sql upd_same), lay_ints [], lay_ints [], ?_⟩
    rw [eqv_ints, decide_eq_true rfl]
    refine ⟨_, rfl, iteB0 (b := !true) rfl ?_⟩
    and_intros
    refine iteB (decide_eq_true g.r1) ?_
    refine ⟨_, _, rfl, rfl, _, rfl, ?_⟩
    rw [decide_eq_true g.r2]
    refine iteB0 (b := !true) rfl ?_
    and_intros
    refine iteB (decide_eq_true g.l1) ?_
    refine ⟨_, _, rfl, rfl, _, rfl, ?_⟩
    rw [decide_eq_true g.l2]
    refine iteB0 (b := !true) rfl ?_
    and_intros
    refine iteB (decide_eq_true g.w1) ?_
    refine ⟨_, _, rfl, rfl, _, rfl, ?_⟩
    rw [decide_eq_true g.w2]
    refine iteB0 (b := !true) rfl ?_
    exact q _ (h.1.trans (same_upd nL))
/-! ### House -/
def spHouse (K : PySem.W.Frag) (C : Addr) : Sp := fun vs H Q _ => ∃ (p a dx : Addr) (s : Stg), vs = [.ref p, .ref a] ∧ H p = some (.ins C dx []) ∧ IsSet K H a s ∧ ∀ H', SameX p H H' → IsH C H' p ((s.mem.length : Nat) : Int) s.rm s.lt s.ms → Q .non H'
theorem ok_House___init__ (T : Nms mg) (HC : HouseC K C) (F : Fun K "__init__" "House.__init__" s_House___init__ f fd) : FnOk P w K mg base CX0 1 f fd p_House___init__ (spHouse K C) := by
  refine F.ok sc_House___init__ (fun vs H Q E h => ?_) (fun cdv A outer s H vs Q E hr h => ?_)
  · obtain ⟨p, a, dx, s, rfl, _⟩ := h
    rfl
  obtain ⟨p, a, dx, s, rfl, hp, ⟨m, h1, h2⟩, q⟩ := h
  refine ⟨_, (pss_cons (ps_asg (pv 1) (pg_tup rfl (pgs_cons (pg_name (i := 2) sc_House___init__.nd rfl (Or.inl rfl)) (pgs_cons (pg_name (i := 3) sc_House___init__.nd rfl (Or.inl rfl)) (pgs_cons (pg_name (i := 4) sc_House___init__.nd rfl (Or.inl rfl)) (pgs_cons (pg_name (i := 5) sc_House___init__.nd rfl (Or.inl rfl)) pgs_nil))))))
  (pss_cons (ps_fld (pv 0) (pe_callB call_len_seq (by rfl) T.n_len (by decide +kernel) (pa_cons (pv 2) pa_nil)) rfl)
  (pss_cons (ps_fld (pv 0) (pv 3) rfl)
  (pss_cons (ps_fld (pv 0) (pv 4) rfl)
  (pss_one (ps_fld (pv 0) (pv 5) rfl)))))), ?_⟩
  refine ⟨_, rfl, a, _, rfl, h1, rfl, _, _, rfl, _, _, rfl, _, _, rfl, _, _, rfl, rfl, ?_⟩
  and_intros
  refine ⟨p, C, dx, [], rfl, hp, HC.cl, HC.places, (by show 0 < 1000; decide), ?_⟩
  refine ⟨_, rfl, _, rfl, p, C, dx, _, rfl, upd_same, HC.cl, HC.room, (by show 1 < 1000; decide), ?_⟩
  refine ⟨_, rfl, _, rfl, p, C, dx, _, rfl, upd_same, HC.cl, HC.late, (by show 2 < 1000; decide), ?_⟩
  refine ⟨_, rfl, _, rfl, p, C, dx, _, rfl, upd_same, HC.cl, HC.most, (by show 3 < 1000; decide), ?_⟩
  refine q _ (((SameX.upd.trans SameX.upd).trans SameX.upd).trans SameX.upd) ⟨dx, ?_⟩
  rw [upd_same, List.length_map]
  rfl
end
end St

namespace St
open PySem PySem.Spec PyProof.Rows L2
abbrev s__law_setting : Stmt := topS 61
abbrev N__law_setting : List Str := ["_law_row", "_law_most", "_law_memory", "_law_room", "_law_k"]
abbrev p__law_setting : List Str := ["_law_row", "_law_most"]
theorem sc__law_setting : FnScope N__law_setting p__law_setting (defScope s__law_setting) := ⟨rfl, rfl, rfl, by decide +kernel, rfl, by decide +kernel, by decide +kernel⟩
section
variable {P : Program} {w : World} {K : PySem.W.Frag} {mg : Str → Option Value} {base : Heap} {f fT fP : Addr} {fd fdT fdP : FuncData}
def spSetting (K : PySem.W.Frag) : Sp := fun vs H Q _ => ∃ (r : Addr) (m : Int), vs = [.ref r, .int m] ∧ Row K H r ∧ 1 ≤ m ∧ m ≤ 32 ∧
  ∀ (a : Addr) (s : Stg) H', SameX r H H' → Row K H' r → IsSet K H' a s → s.Good → ((s.mem.length : Nat) : Int) ≤ m → Q (.ref a) H'
theorem ok__law_setting (T : Nms mg) (D__law_taken : Df K mg "_law_taken" s__law_taken p__law_taken fT fdT) (F : Fun K "_law_setting" "_law_setting" s__law_setting f fd) : FnOk P w K mg base CX0 2 f fd p__law_setting (spSetting K) := by
  have G__law_taken : FnOk P w K mg base CX0 1 fT fdT p__law_taken (spTaken K) := ok__law_taken D__law_taken.F T
  refine F.ok sc__law_setting (fun vs H Q E h => ?_) (fun cdv A outer s H vs Q E hr h => ?_)
  · obtain ⟨r, m, rfl, _⟩ := h
    rfl
  obtain ⟨r, m, rfl, hR, hm, hm2, q⟩ := h
  refine ⟨_, (pss_cons (ps_set (i := 2) sc__law_setting.nd rfl (Or.inl rfl) (pe_callTy call_tuple_of (by rfl) T.n_tuple (by decide +kernel) (pa_cons (pe_lc (own := [("_law_k", 4)]) (g := gName 4) rfl sc__law_setting.nd (pi_range1 rfl T.n_range (pa_cons (pe_op op_add pe_int (pe_call G__law_taken (hr.mono (by first | decide | omega)) (by rfl) D__law_taken.m D__law_taken.F.kp D__law_taken.b .nil pass0 (pa_cons (pv 0) (pa_cons (pv 1) pa_nil)))) pa_nil)) (blkOk_by (own := [("_law_k", 4)]) (N := N__law_setting) (sc := defScope s__law_setting) (by decide +kernel)) (fun _ _ _ _ _ => pg_name (i := 4) sc__law_setting.nd rfl (Or.inl rfl)) (fun _ _ _ _ _ => pts_nil) (fun _ _ _ _ _ => (pe_call G__law_taken (hr.mono (by first | decide | omega)) (by rfl) D__law_taken.m D__law_taken.F.kp D__law_taken.b .nil pass0 (pa_cons (pv 0) (pa_cons pe_int pa_nil))))) pa_nil)))
  (pss_cons (ps_set (i := 3) sc__law_setting.nd rfl (Or.inl rfl) (pe_op op_add pe_int (pe_call G__law_taken (hr.mono (by first | decide | omega)) (by rfl) D__law_taken.m D__law_taken.F.kp D__law_taken.b .nil pass0 (pa_cons (pv 0) (pa_cons (pe_ix ix_list (pe_lst (pa_cons pe_int (pa_cons pe_int pa_nil))) (pe_call G__law_taken (hr.mono (by first | decide | omega)) (by rfl) D__law_taken.m D__law_taken.F.kp D__law_taken.b .nil pass0 (pa_cons (pv 0) (pa_cons pe_int pa_nil))) (fun _ _ => rfl)) pa_nil)))))
  (pss_one (ps_ret (pe_tup (pa_cons (pv 2) (pa_cons (pv 3) (pa_cons (pe_ix ix_list (pe_lst (pa_cons pe_int (pa_cons pe_int (pa_cons (pe_call G__law_taken (hr.mono (by first | decide | omega)) (by rfl) D__law_taken.m D__law_taken.F.kp D__law_taken.b .nil pass0 (pa_cons (pv 0) (pa_cons pe_int pa_nil))) pa_nil)))) (pe_call G__law_taken (hr.mono (by first | decide | omega)) (by rfl) D__law_taken.m D__law_taken.F.kp D__law_taken.b .nil pass0 (pa_cons (pv 0) (pa_cons pe_int pa_nil))) (fun _ _ => rfl)) (pa_cons (pe_op op_add pe_int (pe_call G__law_taken (hr.mono (by first | decide | omega)) (by rfl) D__law_taken.m D__law_taken.F.kp D__law_taken.b .nil pass0 (pa_cons (pv 0) (pa_cons pe_int pa_nil)))) pa_nil))))))))), ?_⟩
  and_intros
  refine ⟨r, m, rfl, hR, by omega, fun n H1 n0 n1 s1 hR1 => ?_⟩
  refine ⟨_, _, rfl, rfl, _, rfl, by omega, by omega, fun D nD => ?_⟩
  have hDr : D ≠ r := hR1.nr nD
  refine lc_range (lo := 0) (n := (1 + n).toNat) (fun i H' => ∃ ns : List Int, H' D = some (.lst (ns.map V.int)) ∧ ns.length = i ∧ (∀ x ∈ ns, 0 ≤ x ∧ x ≤ 99) ∧ SameX r H1 H' ∧ Row K H' r) ⟨[], upd_same, rfl, fun _ h => (nomatch h), SameX.of (same_upd nD), hR1.same (same_upd nD)⟩ (fun i H' hi h => ?_) (fun H' h => ?_)
  · obtain ⟨ns, e, l, b, sx, hr⟩ := h
    refine ⟨rfl, ?_⟩
    and_intros
    refine ⟨r, 100, rfl, hr, by decide, fun x H2 x0 x1 s2 hR2 => ?_⟩
    refine ⟨_, s2 _ _ hDr e, by rw [List.length_map]; exact szl (by omega), ns ++ [x], by rw [upd_same, List.map_append]; rfl, by rw [List.length_append, l]; rfl, fun y hy => ?_, samex_mut (sx.trans s2) nD, hR2.upd ⟨_, s2 _ _ hDr e⟩ hDr⟩
    rcases List.mem_append.mp hy with hy | hy
    · exact b y hy
    · rw [List.mem_singleton.mp hy]
      omega
  · obtain ⟨ns, e, l, b, sx, hr⟩ := h
    refine ⟨_, _, rfl, .inl ⟨sql e, fun t nt => ?_⟩⟩
    have et : SqT K (upd H' t (.tup (ns.map V.int))) t (ns.map V.int) := sqt upd_same
    have sx2 := s1.trans (sx.trans (SameX.of (same_upd (o := .tup (ns.map V.int)) nt)))
    have hr2 := hr.same (same_upd (o := .tup (ns.map V.int)) nt)
    generalize upd H' t (.tup (ns.map V.int)) = H2 at et sx2 hr2 ⊢
    clear e sx hr
    and_intros
    intro l1 nl1
    have e3 : (upd H2 l1 (.lst [.int 3, .int 8])) l1 = some (.lst [.int 3, .int 8]) := upd_same
    have hr3 := hr2.same (same_upd (o := .lst [.int 3, .int 8]) nl1)
    have sx3 := sx2.trans (SameX.of (same_upd (o := .lst [.int 3, .int 8]) nl1))
    have et3 := same_t (same_upd (o := .lst [.int 3, .int 8]) nl1) et
    have n3r := hr2.nr nl1
    generalize upd H2 l1 (.lst [.int 3, .int 8]) = H3 at e3 hr3 sx3 et3 ⊢
    and_intros
    refine ⟨r, 2, rfl, hr3, by decide, fun x H4 x0 x1 s4 hR4 => ?_⟩
    obtain ⟨rm, rm1, rm2, hx⟩ : ∃ rm : Int, 0 < rm ∧ rm ≤ 8 ∧ atI [V.int 3, V.int 8] x = some (.int rm) := by
      have : x = 0 ∨ x = 1 := by omega
      rcases this with rfl | rfl
      · exact ⟨3, by decide, by decide, rfl⟩
      · exact ⟨8, by decide, by decide, rfl⟩
    refine ⟨_, _, _, _, rfl, rfl, sql (s4 _ _ n3r e3), hx, ?_⟩
    refine ⟨r, rm, rfl, hR4, rm1, fun y H5 y0 y1 s5 hR5 => ?_⟩
    have sx5 := (sx3.trans s4).trans s5
    have et5 := ((Imm.sameX s4 hr3.at_).trans (Imm.sameX s5 hR4.at_)).t et3
    and_intros
    refine ⟨r, 5, rfl, hR5, by decide, fun z H6 z0 z1 s6 hR6 => ?_⟩
    have sx6 := sx5.trans s6
    have et6 := (Imm.sameX s6 hR5.at_).t et5
    and_intros
    intro l2 nl2
    have e7 : (upd H6 l2 (.lst [.int 0, .int 1, .int z])) l2 = some (.lst [.int 0, .int 1, .int z]) := upd_same
    have hr7 := hR6.same (same_upd (o := .lst [.int 0, .int 1, .int z]) nl2)
    have sx7 := sx6.trans (SameX.of (same_upd (o := .lst [.int 0, .int 1, .int z]) nl2))
    have et7 := same_t (same_upd (o := .lst [.int 0, .int 1, .int z]) nl2) et6
    have n7r := hR6.nr nl2
    generalize upd H6 l2 (.lst [.int 0, .int 1, .int z]) = H7 at e7 hr7 sx7 et7 ⊢
    and_intros
    refine ⟨r, 3, rfl, hr7, by decide, fun u H8 u0 u1 s8 hR8 => ?_⟩
    obtain ⟨lt, lt1, lt2, hu⟩ : ∃ lt : Int, 0 ≤ lt ∧ lt ≤ 4 ∧ atI [V.int 0, V.int 1, V.int z] u = some (.int lt) := by
      have : u = 0 ∨ u = 1 ∨ u = 2 := by omega
      rcases this with rfl | rfl | rfl
      · exact ⟨0, by decide, by decide, rfl⟩
      · exact ⟨1, by decide, by decide, rfl⟩
      · exact ⟨z, by omega, by omega, rfl⟩
    refine ⟨_, _, _, _, rfl, rfl, sql (s8 _ _ n7r e7), hu, ?_⟩
    and_intros
    refine ⟨r, 4, rfl, hR8, by decide, fun ms H9 ms0 ms1 s9 hR9 => ?_⟩
    have sx9 := (sx7.trans s8).trans s9
    have et9 := ((Imm.sameX s8 hr7.at_).trans (Imm.sameX s9 hR8.at_)).t et7
    and_intros
    intro p np
    have ln : ns.length = (1 + n).toNat := l
    exact q p ⟨ns, 1 + y, lt, 1 + ms⟩ _ (sx9.trans (SameX.of (same_upd np))) (hR9.same (same_upd np)) ⟨t, sqt upd_same, same_t (same_upd np) et9⟩
      ⟨by show 1 ≤ ns.length; omega, by show ns.length ≤ 32; omega, b, by show (1 : Int) ≤ 1 + y; omega, by show 1 + y ≤ 8; omega, lt1, lt2, by show (1 : Int) ≤ 1 + ms; omega, by show 1 + ms ≤ 4; omega⟩ (by show ((ns.length : Nat) : Int) ≤ m; omega)
end
end St

namespace St
open PySem PySem.Spec PyProof.Rows L2
theorem fit_first : ∀ {k : Nat} {g : G}, good k g = true → Fit g (first0 g)
  | _, .nil, h => by simp [good] at h
  | _, .b1 _, h => by simp [good] at h
  | _, .b3 _ _ _, h => by simp [good] at h
  | 0, .both _ _, h => by simp [good] at h
  | k + 1, .both a b, h => by
    have h' : (good k a && good k b) = true := h
    rw [Bool.and_eq_true] at h'
    exact ⟨fit_first h'.1, fit_first h'.2⟩
  | _, .leaf w ns, _ => by
    by_cases c : w = "stride"
    · rw [show first0 (.leaf w ns) = .str none 0 0 from if_pos c]
      exact c
    · rw [show first0 (.leaf w ns) = .prs none [] from if_neg c]
      exact c
theorem ok_first : ∀ (g : G), okS 0 (first0 g)
  | .nil => ⟨Nat.le_refl _, List.Pairwise.nil, fun _ h => nomatch h⟩
  | .b1 _ => ⟨Nat.le_refl _, List.Pairwise.nil, fun _ h => nomatch h⟩
  | .b3 _ _ _ => ⟨Nat.le_refl _, List.Pairwise.nil, fun _ h => nomatch h⟩
  | .both a b => ⟨ok_first a, ok_first b⟩
  | .leaf w ns => by
    by_cases c : w = "stride"
    · rw [show first0 (.leaf w ns) = .str none 0 0 from if_pos c]
      exact True.intro
    · rw [show first0 (.leaf w ns) = .prs none [] from if_neg c]
      exact ⟨Nat.le_refl _, List.Pairwise.nil, fun _ h => nomatch h⟩
theorem okS_le {N M : Nat} (h : N ≤ M) : ∀ {s : Sg}, okS N s → okS M s
  | .str _ _ _, _ => True.intro
  | .prs _ _, ⟨a, b, c⟩ => ⟨Nat.le_trans a h, b, c⟩
  | .both _ _, ⟨a, b⟩ => ⟨okS_le h a, okS_le h b⟩
theorem stepG_keeps : ∀ {k : Nat} {g : G} {s : Sg} {p : Int} {N : Nat}, good k g = true → Fit g s → okS N s → Fit g (stepG g s p).1 ∧ okS (N + 1) (stepG g s p).1
  | _, .nil, _, _, _, h, _, _ => by simp [good] at h
  | _, .b1 _, _, _, _, h, _, _ => by simp [good] at h
  | _, .b3 _ _ _, _, _, _, h, _, _ => by simp [good] at h
  | 0, .both _ _, _, _, _, h, _, _ => by simp [good] at h
  | k + 1, .both a b, .both s t, p, N, h, f, o => by
    have h' : (good k a && good k b) = true := h
    rw [Bool.and_eq_true] at h'
    have ha := stepG_keeps (p := p) h'.1 f.1 o.1
    have hb := stepG_keeps (p := p) h'.2 f.2 o.2
    exact ⟨⟨ha.1, hb.1⟩, ⟨ha.2, hb.2⟩⟩
  | _, .both _ _, .str _ _ _, _, _, _, f, _ => f.elim
  | _, .both _ _, .prs _ _, _, _, _, f, _ => f.elim
  | k, .leaf z ns, s, p, N, h, f, o => by
    by_cases c1 : z = "none"
    · have e : stepG (.leaf z ns) s p = (s, []) := if_pos c1
      rw [e]
      exact ⟨f, okS_le (Nat.le_succ _) o⟩
    · obtain ⟨n, rfl, h1, h3⟩ := hd_good h c1
      by_cases c2 : z = "next"
      · have e : stepG (.leaf z [n]) s p = (s, (List.range n.toNat).map fun (k : Nat) => p + (k : Int) + 1) := (if_neg c1).trans (if_pos c2)
        rw [e]
        exact ⟨f, okS_le (Nat.le_succ _) o⟩
      · cases s with
        | both _ _ => exact f.elim
        | str l st t =>
          have e : stepG (.leaf z [n]) (.str l st t) p = strStep n l st t p := (if_neg c1).trans (if_neg c2)
          rw [e]
          unfold strStep
          cases l with
          | none => exact ⟨f, True.intro⟩
          | some x => exact ⟨f, True.intro⟩
        | prs l kn =>
          have e : stepG (.leaf z [n]) (.prs l kn) p = (.prs (some p) (knStep n l kn p), lookK (knStep n l kn p) p) := (if_neg c1).trans (if_neg c2)
          rw [e]
          exact ⟨f, knStep_ok h3 o⟩
def stG (g : G) (ps : List Int) : Sg := ps.foldl (fun s p => (stepG g s p).1) (first0 g)
/-- what is guessed behind the last -/
def outG (g : G) : List Int → List (List Int) → Sg → List (List Int)
  | [], acc, _ => acc
  | p :: r, acc, s => outG g r (acc ++ [(stepG g s p).2]) (stepG g s p).1
/-- what is guessed behind each of them -/
def allG (g : G) (ps : List Int) : Nat → List (List Int)
  | 0 => []
  | i + 1 => allG g ps i ++ [(stepG g (stG g (ps.take i)) (ps.getD i 0)).2]
theorem stG_snoc (g : G) (ps : List Int) (p : Int) : stG g (ps ++ [p]) = (stepG g (stG g ps) p).1 := by
  unfold stG
  rw [List.foldl_append]
  rfl
theorem stG_keeps {k : Nat} {g : G} (h : good k g = true) (ps : List Int) : ∀ i : Nat, i ≤ ps.length → Fit g (stG g (ps.take i)) ∧ okS i (stG g (ps.take i))
  | 0, _ => ⟨by rw [List.take_zero]; exact fit_first h, by rw [List.take_zero]; exact ok_first g⟩
  | i + 1, hi => by
    have z := stG_keeps h ps i (by omega)
    have e : ps.take (i + 1) = ps.take i ++ [ps[i]] := by rw [List.take_add_one, List.getElem?_eq_getElem (by omega)]; rfl
    rw [e, stG_snoc]
    exact stepG_keeps h z.1 z.2
theorem allG_len (g : G) (ps : List Int) : ∀ i, (allG g ps i).length = i
  | 0 => rfl
  | i + 1 => by rw [allG, List.length_append, allG_len g ps i]; rfl
theorem allG_at (g : G) (ps : List Int) {i : Nat} : ∀ n, i < n → (allG g ps n)[i]? = some (stepG g (stG g (ps.take i)) (ps.getD i 0)).2
  | 0, h => absurd h (Nat.not_lt_zero _)
  | n + 1, h => by
    unfold allG
    by_cases c : i < n
    · rw [List.getElem?_append_left (by rw [allG_len]; exact c)]
      exact allG_at g ps n c
    · have e : i = n := by omega
      subst e
      rw [List.getElem?_append_right (by rw [allG_len]; exact Nat.le_refl _), allG_len, Nat.sub_self]
      rfl
end St

namespace St
open PySem PySem.Spec PyProof.Rows L2
abbrev s_guesses : Stmt := topS 17
abbrev N_guesses : List Str := ["guesser", "places", "state", "found", "place", "some"]
abbrev p_guesses : List Str := ["guesser", "places"]
theorem sc_guesses : FnScope N_guesses p_guesses (defScope s_guesses) := ⟨rfl, rfl, rfl, by decide +kernel, rfl, by decide +kernel, by decide +kernel⟩
section
variable {P : Program} {w : World} {K : PySem.W.Frag} {mg : Str → Option Value} {base : Heap} {f f1 f2 f3 f4 f5 f6 dS dM : Addr} {fd fd1 fd2 fd3 fd4 fd5 fd6 : FuncData}
/-- fresh lists of numbers -/
def Fresh (H H' : Hp) (l : Addr) (as : List Addr) (ls : List (List Int)) : Prop := Paired (fun (a : Addr) (e : List Int) => H a = none ∧ a ≠ l ∧ H' a = some (.lst (e.map V.int)) ∧ e.length ≤ 24) as ls
def spGuesses (K : PySem.W.Frag) : Sp := fun vs H Q _ => ∃ (v : V) (g : G) (a : Addr) (ps : List Int), vs = [v, .ref a] ∧ IsG K H g v ∧ good 3 g = true ∧ SqL K H a (ps.map V.int) ∧ ps.length ≤ 10000 ∧
  ∀ (l : Addr) (as : List Addr) (H' : Hp), Same H H' → H l = none → H' l = some (.lst (as.map V.ref)) → Fresh H H' l as (allG g ps ps.length) → Q (.ref l) H'
theorem ok_guesses (T : Nms mg) (B : Tab K w mg dS dM) (D_is_guesser : Df K mg "is_guesser" s_is_guesser p_is_guesser f1 fd1) (D_need_guesser : Df K mg "need_guesser" s_need_guesser p_need_guesser f2 fd2) (D_first_state : Df K mg "first_state" s_first_state p_first_state f3 fd3)
    (D_strided : Df K mg "strided" s_strided p_strided f4 fd4) (D_paired : Df K mg "paired" s_paired p_paired f5 fd5) (D_stepped : Df K mg "stepped" s_stepped p_stepped f6 fd6) (F : Fun K "guesses" "guesses" s_guesses f fd) : FnOk P w K mg base CX0 7 f fd p_guesses (spGuesses K) := by
  have G_need_guesser : FnOk P w K mg base CX0 6 f2 fd2 p_need_guesser (spNeedG K) := ok_need_guesser T B D_is_guesser D_need_guesser
  have G_first_state : FnOk P w K mg base CX0 4 f3 fd3 p_first_state (spFirst K 4) := ok_first_state T D_first_state 4
  have G_stepped : FnOk P w K mg base CX0 5 f6 fd6 p_stepped (spStepped K 4) := ok_stepped T D_strided D_paired D_stepped 4
  refine F.ok sc_guesses (fun vs H Q E h => ?_) (fun cdv A outer s H vs Q E hr h => ?_)
  · obtain ⟨v, g, a, ps, rfl, _⟩ := h
    rfl
  obtain ⟨v, g, a, ps, rfl, hG, hg, hps, hN, q⟩ := h
  refine ⟨_, (pss_cons (ps_expr (pe_call G_need_guesser (hr.mono (by first | decide | omega)) (by rfl) D_need_guesser.m D_need_guesser.F.kp D_need_guesser.b .nil pass0 (pa_cons (pv 0) pa_nil)))
  (pss_cons (ps_set (i := 2) sc_guesses.nd rfl (Or.inl rfl) (pe_call G_first_state (hr.mono (by first | decide | omega)) (by rfl) D_first_state.m D_first_state.F.kp D_first_state.b .nil pass0 (pa_cons (pv 0) pa_nil)))
  (pss_cons (ps_set (i := 3) sc_guesses.nd rfl (Or.inl rfl) (pe_lst pa_nil))
  (pss_cons (ps_for PassesOwn.never rfl (pi_list (pv 1)) (pg_name (i := 4) sc_guesses.nd rfl (Or.inl rfl))
    (pss_cons (ps_asg (pe_call G_stepped (hr.mono (by first | decide | omega)) (by rfl) D_stepped.m D_stepped.F.kp D_stepped.b .nil pass0 (pa_cons (pv 0) (pa_cons (pv 2) (pa_cons (pv 4) pa_nil)))) (pg_tup rfl (pgs_cons (pg_name (i := 2) sc_guesses.nd rfl (Or.inl rfl)) (pgs_cons (pg_name (i := 5) sc_guesses.nd rfl (Or.inl rfl)) pgs_nil))))
    (pss_one (ps_expr (pe_bm PySem.F.plainAttrs_list PySem.F.slot_list_append PySem.F.type_list_append mt_append (pv 3) (pa_cons (pv 5) pa_nil))))))
  (pss_one (ps_ret (pv 3))))))), ?_⟩
  and_intros
  refine ⟨v, g, rfl, hG, hg, fun H1 s1 => ?_⟩
  and_intros
  refine ⟨v, g, 3, rfl, hG.same s1, hg, by omega, by omega, fun v2 H2 s2 i2 => ?_⟩
  and_intros
  intro L nL
  and_intros
  refine ⟨⟨_, same_l ((s1.trans s2).trans (same_upd nL)) hps⟩, ?_⟩
  have nL0 : H L = none := (s1.trans s2).free nL
  refine for_list (xs := ps.map V.int) (fun i σ H' => ∃ y5 y6 v3 as, σ = [some v, some (.ref a), some v3, some (.ref L), y5, y6] ∧ Same H2 H' ∧ IsS K H' (stG g (ps.take i)) v3 ∧ H' L = some (.lst (as.map V.ref)) ∧ Fresh H H' L as (allG g ps i))
    ⟨none, none, v2, [], rfl, same_upd nL, i2.same (same_upd nL), upd_same, .nil⟩ (fun i σ H' _ h => ?_) (fun i x σ H' hi h => ?_) (fun σ H' h => ?_)
  · obtain ⟨y5, y6, v3, as, rfl, s3, i3, e3, f3⟩ := h
    exact same_l ((s1.trans s2).trans s3) hps
  · obtain ⟨y5, y6, v3, as, rfl, s3, i3, e3, f3⟩ := h
    obtain ⟨p, rfl, ep, tk⟩ := at_ints hi
    have hi' : i < ps.length := (List.getElem?_eq_some_iff.mp ep).1
    and_intros
    have kp := stG_keeps hg ps i (by omega)
    refine ⟨v, v3, g, stG g (ps.take i), p, 3, i, rfl, ((hG.same s1).same s2).same s3, i3, hg, by omega, by omega, kp.1, kp.2, by omega, fun q1 l1 v4 H4 s4 n4 i4 e4 t4 => ?_⟩
    refine ⟨q1, _, rfl, sqt t4, rfl, _, _, rfl, _, _, rfl, rfl, ?_⟩
    have la : as.length = i := by rw [Paired.length f3, allG_len]
    have nl : l1 ≠ L := (ne_of_none e3 n4).symm
    have sL : Same H2 (upd H4 L (.lst (as.map V.ref ++ [.ref l1]))) := same_mut (s3.trans s4) nL
    and_intros
    and_intros
    refine ⟨.inl ⟨rfl, _, sql (s4 _ _ e3)⟩, _, rfl, _, _, _, rfl, rfl, s4 _ _ e3, by simp only [List.length_map]; exact szl (by omega), ?_⟩
    have tk' : stG g (ps.take (i + 1)) = (stepG g (stG g (ps.take i)) p).1 := by rw [tk, stG_snoc]
    have gd : ps.getD i 0 = p := by rw [List.getD_eq_getElem?_getD, ep]; rfl
    have sz4 := stepG_len (p := p) hg kp.1 kp.2
    refine ⟨_, _, v4, as ++ [l1], rfl, sL, ?_, by rw [upd_same, List.map_append]; rfl, ?_⟩
    · rw [tk']
      exact i4.imm (Imm.upd ⟨_, s4 _ _ e3⟩)
    · have z0 : H l1 = none := ((s1.trans s2).trans s3).free n4
      unfold allG
      rw [gd]
      refine Paired.snoc (Paired.mapP f3 fun x y z => ⟨z.1, z.2.1, ?_, z.2.2.2⟩) ⟨z0, nl, by rw [upd_ne nl]; exact e4, by omega⟩
      rw [upd_ne z.2.1]
      exact s4 _ _ z.2.2.1
  · obtain ⟨y5, y6, v3, as, rfl, s3, i3, e3, f3⟩ := h
    rw [List.length_map] at f3
    and_intros
    exact q L as H' ((s1.trans s2).trans s3) nL0 e3 f3
end
end St

namespace St
open PySem PySem.Spec PyProof.Rows L2 TL
theorem natAbs_log {n : Int} (h : n = 1 ∨ n = 2 ∨ n = 3) : n.natAbs.log2 < 1920 := by
  rcases h with rfl | rfl | rfl <;> decide
abbrev s_words_of : Stmt := topS 57
abbrev N_words_of : List Str := ["guesser", "part"]
abbrev p_words_of : List Str := ["guesser"]
theorem sc_words_of : FnScope N_words_of p_words_of (defScope s_words_of) := ⟨rfl, rfl, rfl, by decide +kernel, rfl, by decide +kernel, by decide +kernel⟩
abbrev s_written : Stmt := topS 58
abbrev N_written : List Str := ["guesser"]
abbrev p_written : List Str := ["guesser"]
theorem sc_written : FnScope N_written p_written (defScope s_written) := ⟨rfl, rfl, rfl, by decide +kernel, rfl, by decide +kernel, by decide +kernel⟩
section
variable {P : Program} {w : World} {K : PySem.W.Frag} {mg : Str → Option Value} {base : Heap} {f dS dM fI fN : Addr} {fd fdI fdN : FuncData}
def spWords (K : PySem.W.Frag) (n : Nat) : Sp := fun vs H Q _ => ∃ (v : V) (g : G) (k : Nat), vs = [v] ∧ IsG K H g v ∧ good k g = true ∧ k < n ∧ k ≤ 3 ∧ ∀ p H', Same H H' → H p = none → H' p = some (.lst ((wordsG g).map V.str)) → Q (.ref p) H'
theorem ok_words_of (T : Nms mg) (D_words_of : Df K mg "words_of" s_words_of p_words_of f fd) : ∀ n : Nat, FnOk P w K mg base CX0 n f fd p_words_of (spWords K n)
  | 0 => fn_zero fun vs H Q E ⟨v, g, k, _, _, _, h, _⟩ => by omega
  | n + 1 => by
    have G_words_of := ok_words_of T D_words_of n
    refine D_words_of.F.ok sc_words_of (fun vs H Q E h => ?_) (fun cdv A outer s H vs Q E hr h => ?_)
    · obtain ⟨r, m, wi, rfl, _⟩ := h
      rfl
    obtain ⟨v, g, k, rfl, hG, hg, hk, hk3, q⟩ := h
    refine ⟨_, (pss_cons (ps_if (pt_cmpR op_eq (pe_ix ix_tup (pv 0) pe_int (fun _ _ => rfl)) pe_str (nomark _))
    (pss_one (ps_ret (pe_op op_cat (pe_op op_cat (pe_lst (pa_cons pe_str pa_nil)) (pe_call G_words_of (hr.mono (by first | decide | omega)) (by rfl) D_words_of.m D_words_of.F.kp D_words_of.b .nil pass0 (pa_cons (pe_ix ix_tup (pv 0) pe_int (fun _ _ => rfl)) pa_nil))) (pe_call G_words_of (hr.mono (by first | decide | omega)) (by rfl) D_words_of.m D_words_of.F.kp D_words_of.b .nil pass0 (pa_cons (pe_ix ix_tup (pv 0) pe_int (fun _ _ => rfl)) pa_nil)))))
    (pss_nil))
  (pss_one (ps_ret (pe_lc (own := [("part", 1)]) (g := gName 1) rfl sc_words_of.nd (pi_tup (pv 0)) (blkOk_by (own := [("part", 1)]) (N := N_words_of) (sc := defScope s_words_of) (by decide +kernel)) (fun _ _ _ _ _ => pg_name (i := 1) sc_words_of.nd rfl (Or.inl rfl)) (fun _ _ _ _ _ => pts_nil) (fun _ _ _ _ _ => (pe_callTy (CallR.or SkE.call_str_str call_str_int) (by rfl) T.n_str (by decide +kernel) (pa_cons (pv 1) pa_nil))))))), ?_⟩
    cases g with
    | leaf z ns =>
      obtain ⟨p, rfl, hp⟩ := hG
      have hz : z ≠ ("both" : Str) := (isG_good k _ hg hk3).2
      and_intros
      refine iteB0 (decide_eq_false fun x => hz (V.str.inj x)) ?_
      and_intros
      refine ⟨⟨_, hp⟩, fun D nD => ?_⟩
      refine lc_tup (xs := .str z :: ns.map V.int) (fun i H' => Same H H' ∧ H' D = some (.lst (((wordsG (.leaf z ns)).take i).map V.str))) ⟨same_upd nD, upd_same⟩ (fun i H' _ h => same_t h.1 hp) (fun i x H' hi h => ?_) (fun H' h => ?_)
      · have hl : (wordsG (.leaf z ns)).length = ns.length + 1 := by
          show (z :: ns.map strN).length = _
          rw [List.length_cons, List.length_map]
        have h4 : ns.length + 1 ≤ 2 := by
          rcases good_leaf hg with ⟨_, rfl⟩ | ⟨m, rfl, _⟩ <;> simp
        have fin : ∀ y : Str, (wordsG (.leaf z ns))[i]? = some y → ∃ acc, H' D = some (.lst acc) ∧ acc.length < sizeLine ∧ (Same H (upd H' D (.lst (acc ++ [.str y]))) ∧ (upd H' D (.lst (acc ++ [.str y]))) D = some (.lst (((wordsG (.leaf z ns)).take (i + 1)).map V.str))) := fun y hy => by
          refine ⟨_, h.2, ?_, same_mut h.1 nD, ?_⟩
          · rw [List.length_map, List.length_take]
            exact szl (by omega)
          · rw [upd_same, List.take_add_one, hy, List.map_append]
            rfl
        and_intros
        cases i with
        | zero =>
          cases Option.some.inj hi
          exact Or.inl ⟨z, rfl, fin z rfl⟩
        | succ i =>
          rw [List.getElem?_cons_succ, List.getElem?_map] at hi
          cases e : ns[i]? with
          | none => rw [e] at hi; cases hi
          | some m =>
            rw [e] at hi
            cases Option.some.inj hi
            have hm : m = 1 ∨ m = 2 ∨ m = 3 := by
              rcases good_leaf hg with ⟨_, rfl⟩ | ⟨m', rfl, hm', _⟩
              · cases e
              · cases i with
                | zero => cases Option.some.inj e; exact hm'
                | succ i => cases e
            refine Or.inr ⟨m, rfl, natAbs_log hm, fin (strN m) ?_⟩
            show (z :: ns.map strN)[i + 1]? = _
            rw [List.getElem?_cons_succ, List.getElem?_map, e]
            rfl
      · refine q D H' h.1 nD ?_
        rw [h.2, List.take_of_length_le]
        show (z :: ns.map strN).length ≤ _
        rw [List.length_cons, List.length_cons, List.length_map, List.length_map]
        exact Nat.le_refl _
    | both a b =>
      cases k with
      | zero => simp [good] at hg
      | succ k =>
      obtain ⟨p, x, y, rfl, hp, ha, hb⟩ := hG
      have h' : (good k a && good k b) = true := hg
      rw [Bool.and_eq_true] at h'
      have w1 := wt_words k a h'.1
      have w2 := wt_words k b h'.2
      have w3 : 2 ^ k ≤ 8 := by
        have : k = 0 ∨ k = 1 ∨ k = 2 := by omega
        rcases this with rfl | rfl | rfl <;> decide
      unfold wt at w1 w2
      and_intros
      intro l0 n0
      have hp0 := same_t (same_upd (o := .lst [.str "both"]) n0) hp
      and_intros
      refine ⟨x, a, k, rfl, ha.same (same_upd n0), h'.1, by omega, by omega, fun l1 H1 s1 n1 e1 => ?_⟩
      refine ⟨_, _, _, _, rfl, rfl, (by infer_instance), e1, (by rw [List.length_map]; exact sz (by show 1 + _ ≤ _; omega)), fun l2 n2 => ?_⟩
      have hp2 := same_t (same_upd (o := .lst ([.str "both"] ++ (wordsG a).map V.str)) n2) (same_t s1 hp0)
      and_intros
      refine ⟨y, b, k, rfl, ((hb.same (same_upd n0)).same s1).same (same_upd n2), h'.2, by omega, by omega, fun l3 H3 s3 n3 e3 => ?_⟩
      refine ⟨_, _, _, _, rfl, rfl, (by infer_instance), e3, (by rw [List.length_append, List.length_map, List.length_map]; exact sz (by show (1 + _) + _ ≤ _; omega)), fun l4 n4 => ?_⟩
      refine q l4 _ (by ac_rfl) ?_ ?_
      · have z : Same H H3 := by ac_rfl
        exact z.free n4
      · rw [upd_same]
        show some (HO.lst (([V.str "both"] ++ (wordsG a).map V.str) ++ (wordsG b).map V.str)) = some (.lst ((("both" : Str) :: (wordsG a ++ wordsG b)).map V.str))
        rw [List.map_cons, List.map_append]
        rfl
    | _ => simp [good] at hg
def spWritten (K : PySem.W.Frag) : Sp := fun vs H Q _ => ∃ (v : V) (g : G), vs = [v] ∧ IsG K H g v ∧ good 3 g = true ∧ ∀ H', Same H H' → Q (.str (textG g)) H'
theorem ok_written (T : Nms mg) (B : Tab K w mg dS dM) (D_is_guesser : Df K mg "is_guesser" s_is_guesser p_is_guesser fI fdI) (D_need_guesser : Df K mg "need_guesser" s_need_guesser p_need_guesser fN fdN) (D_words_of : Df K mg "words_of" s_words_of p_words_of f fd)
    {f2 : Addr} {fd2 : FuncData} (F : Fun K "written" "written" s_written f2 fd2) : FnOk P w K mg base CX0 7 f2 fd2 p_written (spWritten K) := by
  have G_words_of : FnOk P w K mg base CX0 4 f fd p_words_of (spWords K 4) := ok_words_of T D_words_of 4
  have G_need_guesser : FnOk P w K mg base CX0 6 fN fdN p_need_guesser (spNeedG K) := ok_need_guesser T B D_is_guesser D_need_guesser
  refine F.ok sc_written (fun vs H Q E h => ?_) (fun cdv A outer s H vs Q E hr h => ?_)
  · obtain ⟨r, m, rfl, _⟩ := h
    rfl
  obtain ⟨v, g, rfl, hG, hg, q⟩ := h
  refine ⟨_, (pss_cons (ps_expr (pe_call G_need_guesser (hr.mono (by first | decide | omega)) (by rfl) D_need_guesser.m D_need_guesser.F.kp D_need_guesser.b .nil pass0 (pa_cons (pv 0) pa_nil)))
  (pss_one (ps_ret (pe_join pe_str (pe_call G_words_of (hr.mono (by first | decide | omega)) (by rfl) D_words_of.m D_words_of.F.kp D_words_of.b .nil pass0 (pa_cons (pv 0) pa_nil)))))), ?_⟩
  and_intros
  refine ⟨v, g, rfl, hG, hg, fun H1 s1 => ?_⟩
  and_intros
  refine ⟨⟨_, rfl⟩, v, rfl, v, g, 3, rfl, hG.same s1, hg, by omega, by omega, fun l H2 s2 n2 e2 => ?_⟩
  refine ⟨_, _, _, rfl, rfl, .inl (sql e2), ?_, ?_⟩
  · have z := wt_words 3 g hg
    unfold wt at z
    have e : (" " : Str).length = 1 := rfl
    rw [e]
    omega
  · rw [← text_join 3 g hg]
    exact q _ (s1.trans s2)
end
end St

namespace St
open PySem PySem.Spec PyProof.Rows L2
/-! ### the program's own errors -/
/-- a class of error, under CW -/
structure ErrX (K : PySem.W.Frag) (mg : Str → Option Value) (x : Str) (C CW : Addr) : Prop where
  g : mg x = some (.ref C)
  kp : PySem.W.keepIn K (.ref C) = true
  ex : PySem.W.subIn K (.ref C) (.type "BaseException") = some true
  ve : PySem.W.subIn K (.ref C) (.type "ValueError") = some true
  we : PySem.W.subIn K (.ref C) (.ref CW) = some true
  ty : PySem.W.typeIn K (.ref C) = some (.type "type")
  hd : PySem.W.hasDictIn K C = true
  ga : PySem.W.findIn K (.ref C) "__getattribute__" = some (some (.builtin "BaseException.__getattribute__"))
  gg : PySem.W.findIn K (.ref C) "__getattr__" = some none
  ha : PySem.W.findIn K (.ref C) "__class__" = some (some (.builtin "object.__class__"))
  hm : PySem.W.mroIn K C (.type "object") = some true
/-- .. without an __init__ of its own -/
def ErrP (K : PySem.W.Frag) (C : Addr) : Prop := PySem.W.excIn K C [.type "ValueError", .type "Exception", .type "BaseException", .type "object"] "ValueError.__new__" = true
/-- .. with one -/
structure ErrI (K : PySem.W.Frag) (f : Str) (C fI : Addr) : Prop where
  cls : ∃ nm q N bs bm sn sub ab col dd k0 k1 k2 k3 k5, K.lookup C = some (excClassObj nm q C N bs bm true sn sub ab col dd k0 k1 k2 k3 k5 "ValueError.__new__") ∧ PySem.HandSPX.refsVE bm = true
  sa : PySem.W.findIn K (.ref C) "__setattr__" = some (some (.builtin "object.__setattr__"))
  iC : PySem.W.findIn K (.ref C) "__init__" = some (some (.ref fI))
  tI : PySem.W.typeIn K (.ref fI) = some (.type "function")
  no : PySem.W.findIn K (.ref C) f = some none
/-- the errors' own base -/
structure WellC (K : PySem.W.Frag) (mg : Str → Option Value) (CW : Addr) : Prop where
  g : mg "WellError" = some (.ref CW)
  ex : PySem.W.subIn K (.ref CW) (.type "BaseException") = some true
  hd : PySem.W.hasDictIn K CW = true
  ty : PySem.W.typeIn K (.ref CW) = some (.type "type")
  rd : PySem.W.readsIn K CW (.type "type") = true
  sg : PySem.W.specialIn K (.ref CW) "__getattribute__" = some (some (.builtin "type.__getattribute__"))
  nve : mg "ValueError" = none
  fc : PySem.W.findCls K (.ref CW) (.type "type") "__init__" = some (.val (.builtin "ValueError.__init__"))
  hn : PySem.W.specialIn K (.builtin "object.__class__") "__get__" = some (some (.builtin "getset_descriptor.__get__"))
  ht : PySem.W.takesIn K (.builtin "object.__class__") = some true
/-- two classes: whether the one's errors are the other's -/
structure Two (K : PySem.W.Frag) (D C : Addr) (b : Bool) : Prop where
  sub : PySem.W.subIn K (.ref D) (.ref C) = some b
  ne : b = false → D ≠ C
/-- an error's __init__, and how its arguments bind -/
structure Ef (K : PySem.W.Frag) (q : Str) (st : Stmt) (ps : List Str) (f : Addr) (fd : FuncData) : Prop where
  F : Fun K "__init__" q st f fd
  b : Binds K fd ps []
section
variable {K : PySem.W.Frag} {mg : Str → Option Value} {x y : Str} {C D CW fI : Addr}
theorem hd_cls (h : PySem.W.hasDictIn K C = true) : (PySem.W.clsIn K C).isSome = true := by
  obtain ⟨cd, hc, _⟩ := PySem.W.any_some h
  rw [hc]; rfl
theorem kit_ref {b : Bool} (h : ErrX K mg y C CW) (t : Two K D C b) : PySem.W.kitOne K (.ref D) (.ref C) = some b := by
  unfold PySem.W.kitOne
  by_cases e : D = C
  · subst e
    rw [if_pos (beq_self_eq_true _)]
    cases b with
    | true => rfl
    | false => exact absurd rfl (t.ne rfl)
  · have e' : ((Value.ref D == Value.ref C) = true) = False := by simp [e]
    rw [if_neg (by rw [e']; exact id)]
    show (if ((PySem.W.clsIn K C).isSome && PySem.W.typeIn K (.ref C) == some (.type "type")) = true then PySem.W.subIn K (.ref D) (.ref C) else none) = _
    rw [hd_cls h.hd, h.ty, if_pos (by simp)]
    exact t.sub
theorem kit_any3 {t a b c : Value} (ha : PySem.W.kitOne K t a = some false) (hb : PySem.W.kitOne K t b = some false) (hc : PySem.W.kitOne K t c = some false) : PySem.W.kitAny K t [a, b, c] = some false := by
  simp only [PySem.W.kitAny, ha, hb, hc]
theorem kit_ve (h : ErrX K mg x D CW) : PySem.W.kitOne K (.ref D) (.type "ValueError") = some true := by
  unfold PySem.W.kitOne
  rw [if_neg (fun e => by simp at e)]
  show (if PySem.W.kitMeta "ValueError" = true then PySem.W.subIn K (.ref D) (.type "ValueError") else none) = _
  rw [if_pos (by decide +kernel)]
  exact h.ve
theorem exm_well (W : WellC K mg CW) (h : ErrX K mg x D CW) : PySem.W.exmOne K (.ref D) (.ref CW) = some true := PySem.W.exm_ref W.ex W.hd W.ty h.we
theorem ErrX.oex {f : Str} (h : ErrX K mg x C CW) (i : ErrI K f C fI) : OexC K C := ⟨i.cls, i.sa, h.ex, h.ty, h.kp⟩
theorem ErrX.xf (h : ErrX K mg x C CW) : XfC K C := ⟨h.ga, h.gg, h.ex, h.hd⟩
end
/-! ### how errors leave a def -/
def errF (C : Addr) (f : Str) (v : V) (H : Hp) (E : XK) : Prop := ∀ d H', Same H H' → H d = none → H' d = some (.xd [(f, v)]) → E (.ref C) (some d) H'
def errP (C : Addr) (H : Hp) (E : XK) : Prop := ∀ H', Same H H' → E (.ref C) none H'
theorem errF.after {C : Addr} {f : Str} {v : V} {H H' : Hp} {E : XK} (h : errF C f v H E) (s : Same H H') : errF C f v H' E := fun d H2 s2 n e => h d H2 (s.trans s2) (by
  cases q : H d with
  | none => rfl
  | some o => rw [s _ _ q] at n; cases n) e
theorem errP.after {C : Addr} {H H' : Hp} {E : XK} (h : errP C H E) (s : Same H H') : errP C H' E := fun H2 s2 => h H2 (s.trans s2)
section
variable {X : Cx} {e o : Expr} {es : List Expr} {ta : TA} {te : TE} {p1 p2 pos : Pos}
/-- WellError.__init__(self, ..) -/
theorem pe_weinit {CW : Addr} {pl : Sem Bool} (W : WellC X.K X.mg CW) (hg : Gl X "WellError") (ha : PA X (e :: es) ta)
    (hc : eval (.Call (.Attribute (.Name "WellError" p1) "__init__" p2) (e :: es) [] pos) X.env = (do
      let ov ← eval (.Name "WellError" p1) X.env
      standAt p2.atName
      let (f, first) ← holding [ov] (getMethod ov "__init__" pl)
      callWith pos f first (backTo pos (starEach (e :: es) X.env)) (backToKw pos (keywordEach [] X.env))) := by rfl)
    (he : starEach (e :: es) X.env = (false, eval e X.env) :: starEach es X.env := by rfl) (hpl : (backTo pos (starEach es X.env)).any (·.1) = false := by rfl) :
    PE X (.Call (.Attribute (.Name "WellError" p1) "__init__" p2) (e :: es) [] pos) (tVeI X.K ta) := by
  refine ⟨fun pins s σ H Q I h => ?_⟩
  refine PySem.W.methodCall_KW (ld_glob I hg W.g ?_ (by decide)) hc
  refine PySem.W.method_cls I.kIn W.sg (PySem.W.cls_value I.kIn W.rd W.fc (by decide +kernel) ?_)
  show wpAny _ _ (callWith pos (Value.builtin "ValueError.__init__") [] (backTo pos (starEach (e :: es) X.env)) []) _ _ _
  refine PyProof.Rows.callWith_method1 (thn (ha.run pos pins _ σ H _ (I.tok _) h) fun us s1 ⟨vs, H1, I1, r1, a, C, ws, ev, hl, T, ea, q⟩ => ?_) he hpl
  subst ev
  cases r1 with
  | @cons _ u0 _ ur ra rw' =>
    obtain rfl : u0 = Value.ref a := ra
    have hlen : ur.length ≤ sizeLine := by
      rw [← Paired.length rw', sizeLine_eq]
      omega
    exact oinit_ok T I1 ea hlen fun s' J => ⟨.non, H1, J, rfl, q⟩
/-- what an __init__ of an error promises: the field f holds what it is handed -/
def spInit (C : Addr) (f : Str) : Sp := fun vs H Q _ => ∃ (a : Addr) (v : V), vs = [.ref a, v] ∧ H a = some (exo a C none) ∧ ∀ d, H d = none → d ≠ a → Q .non (upd (upd H d (exd d [(f, v)])) a (exo a C (some d)))
/-- raise X(v), the field f -/
theorem init_err {C : Addr} {f : Str} {v : V} {H : Hp} {E : XK} (h : errF C f v H E) : [v].length ≤ 1000 ∧ ∀ a, H a = none → spInit C f (.ref a :: ([v] ++ [])) (upd H a (exo a C none))
    (fun v' H2 => v' = .non ∧ ∃ (d : Addr) (fs : List (Str × V)), H2 a = some (exo a C (some d)) ∧ H2 d = some (exd d fs) ∧ H d = none ∧ E (.ref C) (some d) (upd (del H2 a) d (.xd fs))) (fun _ _ _ => False) := by
  refine ⟨by show 1 ≤ 1000; decide, fun a na => ⟨a, v, rfl, upd_same, fun d nd nda => ⟨rfl, d, [(f, v)], upd_same, by rw [upd_ne nda]; exact upd_same, ?_, ?_⟩⟩⟩
  · rw [upd_ne nda] at nd; exact nd
  · rw [upd_ne nda] at nd
    refine h d _ (fun b o q => ?_) nd upd_same
    have n1 : b ≠ d := ne_of_none q nd
    have n2 : b ≠ a := ne_of_none q na
    rw [upd_ne n1, del_ne n2, upd_ne n2, upd_ne n1, upd_ne n2]
    exact q
/-! ### isinstance of a caught error -/
/-- isinstance(e, c), e the error that the suite holds, of the class cls, its dict at d -/
def rIsX (K : PySem.W.Frag) (mg : Str → Option Value) (CW a : Addr) (cls : Value) (d : Option Addr) : List V → Hp → VK → Prop := fun xs H Q => ∃ (x : Str) (D : Addr) (c : V) (cv : Value) (b : Bool), cls = .ref D ∧ ErrX K mg x D CW ∧ xs = [.ref a, c] ∧ ClsV c cv ∧ (d = none ∨ ∃ dd fs, d = some dd ∧ H dd = some (.xd fs)) ∧ PySem.W.kitOne K (.ref D) cv = some b ∧ Q (.bl b) H
def rIsXT (K : PySem.W.Frag) (mg : Str → Option Value) (CW a : Addr) (cls : Value) (d : Option Addr) : List V → Hp → VK → Prop := fun xs H Q => ∃ (x : Str) (D tp : Addr) (cs : List V) (us : List Value) (b : Bool), cls = .ref D ∧ ErrX K mg x D CW ∧ xs = [.ref a, .ref tp] ∧ H tp = some (.tup cs) ∧ Paired ClsV cs us ∧ (d = none ∨ ∃ dd fs, d = some dd ∧ H dd = some (.xd fs)) ∧ PySem.W.kitAny K (.ref D) us = some b ∧ Q (.bl b) H
end
section
variable {mg : Str → Option Value} {x : Str} {CW D a : Addr} {oe : Obj} {pn : List (Addr × Obj)} {d : Option Addr} {X : Cx}
theorem inst_of {pins : List (Addr × Obj)} {σ : L2.St} {H : Hp} {s : Shared} (I : Inv (X.suite a ((a, oe) :: pn)) pins σ H s) (hz : Zc (.ref D) d oe) (hf : ∃ vs, oe.data = .fields vs) (hd : d = none ∨ ∃ dd fs, d = some dd ∧ H dd = some (.xd fs)) : ∃ od, PySem.W.InstAt s.heap a oe D od := by
  obtain ⟨hget, _⟩ := I.pin (a, oe) (List.mem_append.mpr (.inl List.mem_cons_self))
  obtain ⟨vs, hv⟩ := hf
  obtain ⟨oc, oo, oda, osl⟩ := oe
  obtain ⟨h1, h2⟩ := hz
  dsimp only at h1 h2 hv
  subst h1 h2 hv
  rcases hd with rfl | ⟨dd, fs, rfl, ea⟩
  · exact ⟨none, hget, rfl, rfl, trivial⟩
  · have hx : ObjOk X.prog X.w H s.heap dd (.xd fs) := I.hok dd _ ea
    obtain ⟨mA, hns, hr⟩ := hx
    obtain ⟨od, ho, hl⟩ := lookIn_ns hns
    exact ⟨some od, hget, rfl, rfl, ho⟩
theorem call_isX {K : PySem.W.Frag} {cls : Value} (W : WellC K mg CW) (hz : Zc cls d oe) (hf : ∃ vs, oe.data = .fields vs) (hK : X.K = K := by rfl) : CallR (X.suite a ((a, oe) :: pn)) (.builtin "isinstance") (rIsX K mg CW a cls d) := by
  subst hK
  intro pins s σ H xs us Q I r h
  obtain ⟨x, D, c, cv, b, rfl, T, rfl, hcv, hd, e, q⟩ := h
  obtain ⟨u1, u2, rfl, r1, r2⟩ := vals2 r
  cases (show u1 = Value.ref a from r1)
  have e2 := hcv.eq r2
  subst e2
  obtain ⟨od, J⟩ := inst_of I hz hf hd
  exact PySem.W.kia_one (PySem.W.kitx_exc (hd_cls T.hd) T.ga T.gg T.ex T.ha W.hn W.ht T.hm) I.kIn J e (fun z => nomatch z) fun tk => ⟨.bl b, H, I.kept (t' := tk) fun _ _ z => z, rfl, q⟩
theorem call_isXT {K : PySem.W.Frag} {cls : Value} (W : WellC K mg CW) (hz : Zc cls d oe) (hf : ∃ vs, oe.data = .fields vs) (hK : X.K = K := by rfl) : CallR (X.suite a ((a, oe) :: pn)) (.builtin "isinstance") (rIsXT K mg CW a cls d) := by
  subst hK
  intro pins s σ H xs us Q I r h
  obtain ⟨x, D, tp, cs, ws, b, rfl, T, rfl, hT, k, hd, e, q⟩ := h
  obtain ⟨u1, u2, rfl, r1, r2⟩ := vals2 r
  cases (show u1 = Value.ref a from r1)
  cases (show u2 = Value.ref tp from r2)
  obtain ⟨od, J⟩ := inst_of I hz hf hd
  obtain ⟨_, its, rv, o, h1, h2, n, h3⟩ := (show ObjOk X.prog X.w H s.heap tp (.tup cs) from I.hok tp _ hT)
  have e3 := ClsV.all k rv
  subst e3
  obtain ⟨oc, odd, dt, sl⟩ := o
  simp only at h2 h3
  subst h2 h3
  exact PySem.W.kia_tup (PySem.W.kitx_exc (hd_cls T.hd) T.ga T.gg T.ex T.ha W.hn W.ht T.hm) I.kIn J h1 e (fun z => nomatch z) fun tk => ⟨.bl b, H, I.kept (t' := tk) fun _ _ z => z, rfl, q⟩
end
/-! ### list.count of True -/
def eqkb (k : Bool) (v : Value) : Bool := match v with
  | .bool n => n == k
  | _ => false
theorem eqkb_gives {k : Bool} : ∀ {us : List Value} {ns : List Bool}, Vals (ns.map V.bl) us → ∀ y ∈ us, MeetsSeq.EqGives y (.bool k) (eqkb k y)
  | [], [], .nil => fun y hy => by cases hy
  | _ :: _, n :: _, .cons e h => fun y hy => by
    rcases List.mem_cons.mp hy with e2 | e2
    · cases (show _ = Value.bool n from e)
      rw [e2]
      exact fun prog w A E s Q h => SeqAt.EqAt.bool_bool n k prog w E Q h
    · exact eqkb_gives h y e2
theorem eqkb_count {k : Bool} : ∀ {us : List Value} {ns : List Bool}, Vals (ns.map V.bl) us → us.countP (eqkb k) = ns.count k
  | [], [], .nil => rfl
  | _ :: _, n :: _, .cons e h => by
    have ih := eqkb_count (k := k) h
    cases (show _ = Value.bool n from e)
    rw [List.countP_cons, List.count_cons, ih]
    rfl
def rCntB (K : PySem.W.Frag) : V → List V → Hp → VK → Prop := fun x xs H Q => ∃ (p : Addr) (ns : List Bool) (k : Bool), x = .ref p ∧ xs = [.bl k] ∧ SqL K H p (ns.map V.bl) ∧ Q (.int (ns.count k : Nat)) H
theorem mt_lcountB {X : Cx} {K : PySem.W.Frag} (h : X.K = K := by rfl) : MtR X "list.count" (rCntB K) := by
  subst h
  intro pins s σ H x xs v us Q I rx rxs h
  obtain ⟨p, ns, k, rfl, rfl, hs, q⟩ := h
  cases rx
  obtain ⟨u, rfl, ru⟩ := rxs.one
  cases (show u = Value.bool k from ru)
  obtain ⟨its, rv, ⟨⟨cls, dd, data, sl⟩, n, ho, hc, hdn, hd⟩, hlen⟩ := I.list hs
  simp only at hc hd
  subst hc hd
  refine call_meets PySem.F.slot_list_count ⟨_, ho, rfl⟩ PySem.F.entry_list_count (PySem.F.args_list_count_2 _ _)
    (SeqAt.list_countAt p its.toArray n dd sl (.bool k) (eqkb k)) ⟨ho, fun y hy => (eqkb_gives rv y (by simpa using hy)).at _ _, ?_⟩
  have ec : its.toArray.toList.countP (eqkb k) = ns.count k := eqkb_count rv
  refine ⟨.int (ns.count k : Nat), H, I.tok _, ⟨s.toks, ?_⟩, q⟩
  show Value.int ((its.toArray.toList.countP (eqkb k) : Nat) : Int) s.toks = Value.int ((ns.count k : Nat) : Int) s.toks
  rw [ec]
theorem pe_bmK2 {X : Cx} {K : PySem.W.Frag} {o e : Expr} {es : List Expr} {to : TE} {t : TA} {name : Str} {apos cpos : Pos} {T id : String} {r : V → List V → Hp → VK → Prop}
    (pa : PlainAttrs T) (slot : Slot T name id) (hty : typeOf (.builtin id) = pure (.type "method_descriptor")) (hm : MtR X id r) (ho : PE X o to) (ha : PA X (e :: es) t) (hK : X.K = K := by rfl)
    (hbase : attributeBase o name X.env (eval o X.env) = eval o X.env := by rfl)
    (hfew : ((backTo cpos (starEach (e :: es) X.env)).all (fun x => !x.1) && (backToKw cpos (keywordEach [] X.env)).all (fun x => x.1.isSome)
      && decide ((e :: es).length + ([] : List Keyword).length + (if ([] : List Keyword).isEmpty then 0 else 1) < 30)) = true := by rfl)
    (hline : (apos.endLine == cpos.line) = true := by rfl) (hs : starEach (e :: es) X.env = (false, eval e X.env) :: starEach es X.env := by rfl) (hplain : (backTo cpos (starEach es X.env)).any (·.1) = false := by rfl) :
    PE X (.Call (.Attribute o name apos) (e :: es) [] cpos) (tBM K T r to t) := by
  subst hK
  exact pe_bm pa slot hty hm ho ha hbase hfew hline hs hplain
/-! ### the law's counts -/
/-! ### the errors' own __init__ -/
abbrev s_BadText___init__ : Stmt := inClass (topS 6) 0
abbrev N_BadText___init__ : List Str := ["self", "place"]
abbrev p_BadText___init__ : List Str := ["self", "place"]
theorem sc_BadText___init__ : FnScope N_BadText___init__ p_BadText___init__ (defScope s_BadText___init__) := ⟨rfl, rfl, rfl, by decide +kernel, rfl, by decide +kernel, by decide +kernel⟩
theorem ok_BadText___init__ {P : Program} {w : World} {K : PySem.W.Frag} {mg : Str → Option Value} {base : Heap} {C CW fI f : Addr} {fd : FuncData} (WC : WellC K mg CW) (XE : ErrX K mg "BadText" C CW) (XI : ErrI K "place" C fI) (F : Fun K "__init__" "BadText.__init__" s_BadText___init__ f fd) : FnOk P w K mg base CX0 1 f fd p_BadText___init__ (spInit C "place") := by
  refine F.ok sc_BadText___init__ (fun vs H Q E h => ?_) (fun cdv A outer s H vs Q E hr h => ?_)
  · obtain ⟨a, v, rfl, _⟩ := h
    rfl
  obtain ⟨a, v, rfl, ea, q⟩ := h
  refine ⟨_, (pss_cons (ps_expr (pe_weinit WC rfl (pa_cons (pv 0) (pa_cons (pv 1) pa_nil))))
  (pss_one (ps_ost (pv 0) (pv 1)))), ?_⟩
  refine ⟨_, rfl, _, rfl, a, C, [v], rfl, by show 1 ≤ 1000; decide, XE.oex XI, ea, ?_⟩
  exact ⟨_, rfl, _, rfl, a, C, rfl, XE.oex XI, XI.no, .inl ⟨ea, fun d nd nda => q d nd nda⟩⟩
abbrev s_BadRow___init__ : Stmt := inClass (topS 4) 0
abbrev N_BadRow___init__ : List Str := ["self", "number"]
abbrev p_BadRow___init__ : List Str := ["self", "number"]
theorem sc_BadRow___init__ : FnScope N_BadRow___init__ p_BadRow___init__ (defScope s_BadRow___init__) := ⟨rfl, rfl, rfl, by decide +kernel, rfl, by decide +kernel, by decide +kernel⟩
theorem ok_BadRow___init__ {P : Program} {w : World} {K : PySem.W.Frag} {mg : Str → Option Value} {base : Heap} {C CW fI f : Addr} {fd : FuncData} (WC : WellC K mg CW) (XE : ErrX K mg "BadRow" C CW) (XI : ErrI K "number" C fI) (F : Fun K "__init__" "BadRow.__init__" s_BadRow___init__ f fd) : FnOk P w K mg base CX0 1 f fd p_BadRow___init__ (spInit C "number") := by
  refine F.ok sc_BadRow___init__ (fun vs H Q E h => ?_) (fun cdv A outer s H vs Q E hr h => ?_)
  · obtain ⟨a, v, rfl, _⟩ := h
    rfl
  obtain ⟨a, v, rfl, ea, q⟩ := h
  refine ⟨_, (pss_cons (ps_expr (pe_weinit WC rfl (pa_cons (pv 0) (pa_cons (pv 1) pa_nil))))
  (pss_one (ps_ost (pv 0) (pv 1)))), ?_⟩
  refine ⟨_, rfl, _, rfl, a, C, [v], rfl, by show 1 ≤ 1000; decide, XE.oex XI, ea, ?_⟩
  exact ⟨_, rfl, _, rfl, a, C, rfl, XE.oex XI, XI.no, .inl ⟨ea, fun d nd nda => q d nd nda⟩⟩
abbrev s_BadSetting___init__ : Stmt := inClass (topS 2) 0
abbrev N_BadSetting___init__ : List Str := ["self", "word"]
abbrev p_BadSetting___init__ : List Str := ["self", "word"]
theorem sc_BadSetting___init__ : FnScope N_BadSetting___init__ p_BadSetting___init__ (defScope s_BadSetting___init__) := ⟨rfl, rfl, rfl, by decide +kernel, rfl, by decide +kernel, by decide +kernel⟩
theorem ok_BadSetting___init__ {P : Program} {w : World} {K : PySem.W.Frag} {mg : Str → Option Value} {base : Heap} {C CW fI f : Addr} {fd : FuncData} (WC : WellC K mg CW) (XE : ErrX K mg "BadSetting" C CW) (XI : ErrI K "word" C fI) (F : Fun K "__init__" "BadSetting.__init__" s_BadSetting___init__ f fd) : FnOk P w K mg base CX0 1 f fd p_BadSetting___init__ (spInit C "word") := by
  refine F.ok sc_BadSetting___init__ (fun vs H Q E h => ?_) (fun cdv A outer s H vs Q E hr h => ?_)
  · obtain ⟨a, v, rfl, _⟩ := h
    rfl
  obtain ⟨a, v, rfl, ea, q⟩ := h
  refine ⟨_, (pss_cons (ps_expr (pe_weinit WC rfl (pa_cons (pv 0) (pa_cons (pv 1) pa_nil))))
  (pss_one (ps_ost (pv 0) (pv 1)))), ?_⟩
  refine ⟨_, rfl, _, rfl, a, C, [v], rfl, by show 1 ≤ 1000; decide, XE.oex XI, ea, ?_⟩
  exact ⟨_, rfl, _, rfl, a, C, rfl, XE.oex XI, XI.no, .inl ⟨ea, fun d nd nda => q d nd nda⟩⟩
end St

namespace St
open PySem PySem.Spec PyProof.Rows L2
section
variable {P : Program} {w : World} {K : PySem.W.Frag} {mg : Str → Option Value} {base : Heap} {f dS dM fI CG CW : Addr} {fd fdI : FuncData}
/-- need_guesser of anything -/
def spNeedX (K : PySem.W.Frag) (CG : Addr) : Sp := fun vs H Q E => ∃ (v : V) (g : G), vs = [v] ∧ IsG K H g v ∧ WfG g ∧ (isG 0 g = true → ∀ H', Same H H' → Q .non H') ∧ (isG 0 g = false → errP CG H E)
theorem okX_need_guesser (T : Nms mg) (B : Tab K w mg dS dM) (XE_BadGuesser : ErrX K mg "BadGuesser" CG CW) (XP_BadGuesser : ErrP K CG) (D_is_guesser : Df K mg "is_guesser" s_is_guesser p_is_guesser fI fdI) (F : Fun K "need_guesser" "need_guesser" s_need_guesser f fd) : FnOk P w K mg base (L2.CX P w) 7 f fd p_need_guesser (spNeedX K CG) := by
  have G_is_guesser : FnOk P w K mg base CX0 5 fI fdI p_is_guesser (spIs K 5) := ok_is_guesser T B D_is_guesser 5
  refine F.okX sc_need_guesser (fun vs H Q E h => ?_) (fun cdv A outer s H vs Q E hr h => ?_)
  · obtain ⟨v, g, rfl, _⟩ := h
    rfl
  obtain ⟨v, g, rfl, hG, hW, q1, q2⟩ := h
  refine ⟨_, (pss_one (ps_if (pt_not (pt_val (pe_call G_is_guesser (hr.mono (by first | decide | omega)) (by rfl) D_is_guesser.m D_is_guesser.F.kp D_is_guesser.b .nil pass0 (pa_cons (pv 0) (pa_cons pe_int pa_nil)))))
    (pss_one (ps_raise rfl (takes_of rfl rfl rfl rfl) (pmk_own PySem.F.excBase_ValueError XP_BadGuesser XE_BadGuesser.g XE_BadGuesser.kp (raises_own XE_BadGuesser.ex XE_BadGuesser.ty) rfl)))
    (pss_nil))), ?_⟩
  refine ⟨_, rfl, ?_⟩
  refine ⟨v, g, 0, rfl, hG, hW, by omega, by omega, fun H1 s1 => ?_⟩
  refine ⟨_, rfl, ?_⟩
  cases e : isG 0 g with
  | true =>
    refine iteB0 (b := !true) rfl ?_
    exact q1 e H1 s1
  | false =>
    refine iteB (b := !false) rfl ?_
    exact q2 e H1 s1
end
end St

namespace St
open PySem PySem.Spec PyProof.Rows L2
/-! ### settings of any numbers -/
def MemOk (m : List Int) : Prop := (1 ≤ m.length ∧ m.length ≤ 32) ∧ ∀ x ∈ m, 0 ≤ x ∧ x ≤ 99
/-- the first word that is none -/
def WhyS (s : Stg) (w : Str) : Prop := (¬ MemOk s.mem ∧ w = "memory") ∨ (MemOk s.mem ∧ ¬ (1 ≤ s.rm ∧ s.rm ≤ 8) ∧ w = "room") ∨ (MemOk s.mem ∧ (1 ≤ s.rm ∧ s.rm ≤ 8) ∧ ¬ (0 ≤ s.lt ∧ s.lt ≤ 4) ∧ w = "late") ∨
  (MemOk s.mem ∧ (1 ≤ s.rm ∧ s.rm ≤ 8) ∧ (0 ≤ s.lt ∧ s.lt ≤ 4) ∧ ¬ (1 ≤ s.ms ∧ s.ms ≤ 4) ∧ w = "most")
theorem stg_good {s : Stg} (a : MemOk s.mem) (b : 1 ≤ s.rm ∧ s.rm ≤ 8) (c : 0 ≤ s.lt ∧ s.lt ≤ 4) (d : 1 ≤ s.ms ∧ s.ms ≤ 4) : s.Good := ⟨a.1.1, a.1.2, a.2, b.1, b.2, c.1, c.2, d.1, d.2⟩
theorem good_mem {s : Stg} (g : s.Good) : MemOk s.mem := ⟨⟨g.m1, g.m2⟩, g.m3⟩
theorem why_or (s : Stg) : s.Good ∨ ∃ w, WhyS s w := by
  by_cases a : MemOk s.mem
  · by_cases b : 1 ≤ s.rm ∧ s.rm ≤ 8
    · by_cases c : 0 ≤ s.lt ∧ s.lt ≤ 4
      · by_cases d : 1 ≤ s.ms ∧ s.ms ≤ 4
        · exact .inl (stg_good a b c d)
        · exact .inr ⟨_, .inr (.inr (.inr ⟨a, b, c, d, rfl⟩))⟩
      · exact .inr ⟨_, .inr (.inr (.inl ⟨a, b, c, rfl⟩))⟩
    · exact .inr ⟨_, .inr (.inl ⟨a, b, rfl⟩)⟩
  · exact .inr ⟨_, .inl ⟨a, rfl⟩⟩
theorem why_not {s : Stg} {w : Str} (h : WhyS s w) (g : s.Good) : False := by
  rcases h with ⟨a, _⟩ | ⟨_, b, _⟩ | ⟨_, _, c, _⟩ | ⟨_, _, _, d, _⟩
  · exact a (good_mem g)
  · exact b ⟨g.r1, g.r2⟩
  · exact c ⟨g.l1, g.l2⟩
  · exact d ⟨g.w1, g.w2⟩
theorem why_one {s : Stg} {w w' : Str} (h : WhyS s w) (h' : WhyS s w') : w = w' := by
  rcases h with ⟨a, e⟩ | ⟨a, b, e⟩ | ⟨a, b, c, e⟩ | ⟨a, b, c, d, e⟩ <;> rcases h' with ⟨a', e'⟩ | ⟨a', b', e'⟩ | ⟨a', b', c', e'⟩ | ⟨a', b', c', d', e'⟩ <;> first | exact e.trans e'.symm | contradiction
def badM (x : Int) : Bool := !(decide (0 ≤ x) && decide (x ≤ 99))
theorem memOk_of {m : List Int} (h : 1 ≤ m.length ∧ m.length ≤ 32) (e : m.filter badM = []) : MemOk m := ⟨h, fun x hx => by
  have z := List.filter_eq_nil_iff.mp e x hx
  unfold badM at z
  simp only [Bool.not_eq_true, Bool.not_eq_false', Bool.and_eq_true, decide_eq_true_eq] at z
  exact z⟩
theorem memOk_to {m : List Int} (h : MemOk m) : m.filter badM = [] := List.filter_eq_nil_iff.mpr fun x hx => by
  unfold badM
  obtain ⟨a, b⟩ := h.2 x hx
  rw [decide_eq_true a, decide_eq_true b]
  exact fun z => nomatch z
section
variable {P : Program} {w : World} {K : PySem.W.Frag} {mg : Str → Option Value} {base : Heap} {f CS CW fS : Addr} {fd fdS : FuncData}
def spNSX (K : PySem.W.Frag) (CS : Addr) : Sp := fun vs H Q E => ∃ (a : Addr) (s : Stg), vs = [.ref a] ∧ IsSet K H a s ∧ s.mem.length ≤ 1000 ∧ (s.Good → ∀ H', Same H H' → Q .non H') ∧ (∀ w, WhyS s w → errF CS "word" (.str w) H E)
theorem okX_need_setting (T : Nms mg) (Cn : Cns mg) (WC : WellC K mg CW) (XE_BadSetting : ErrX K mg "BadSetting" CS CW) (XI_BadSetting : ErrI K "word" CS fS) (D_BadSetting___init__ : Ef K "BadSetting.__init__" s_BadSetting___init__ p_BadSetting___init__ fS fdS) (F : Fun K "need_setting" "need_setting" s_need_setting f fd) : FnOk P w K mg base (L2.CX P w) 4 f fd p_need_setting (spNSX K CS) := by
  have G_BadSetting___init__ : FnOk P w K mg base CX0 1 fS fdS p_BadSetting___init__ (spInit CS "word") := ok_BadSetting___init__ WC XE_BadSetting XI_BadSetting D_BadSetting___init__.F
  refine F.okX sc_need_setting (fun vs H Q E h => ?_) (fun cdv A outer s H vs Q E hr h => ?_)
  · obtain ⟨a, s, rfl, _⟩ := h
    rfl
  obtain ⟨a, s, rfl, ⟨m, h1, h2⟩, lm0, q, qe⟩ := h
  refine ⟨_, (pss_cons (ps_asg (pv 0) (pg_tup rfl (pgs_cons (pg_name (i := 1) sc_need_setting.nd rfl (Or.inl rfl)) (pgs_cons (pg_name (i := 2) sc_need_setting.nd rfl (Or.inl rfl)) (pgs_cons (pg_name (i := 3) sc_need_setting.nd rfl (Or.inl rfl)) (pgs_cons (pg_name (i := 4) sc_need_setting.nd rfl (Or.inl rfl)) pgs_nil))))))
  (pss_cons (ps_if (PW.pt (pw_or (pt_not (pt_chain op_le op_le pe_int (pe_callB call_len_seq (by rfl) T.n_len (by decide +kernel) (pa_cons (pv 1) pa_nil)) (pe_gint (by rfl) Cn.MOST_PLACES))) (pw_or1 (pt_cmpR (op_neD hr.units) (pe_lc (own := [("one", 5)]) (g := gName 5) rfl sc_need_setting.nd (pi_tup (pv 1)) (blkOk_by (own := [("one", 5)]) (N := N_need_setting) (sc := defScope s_need_setting) (by decide +kernel)) (fun _ _ _ _ _ => pg_name (i := 5) sc_need_setting.nd rfl (Or.inl rfl)) (fun _ _ _ _ _ => pts_one (pt_not (pt_chain op_le op_le pe_int (pv 5) (pe_gint (by rfl) Cn.MOST_NUMBER)))) (fun _ _ _ _ _ => (pv 5))) (pe_lst pa_nil) (nomark _)))))
    (pss_one (ps_raise rfl (takes_of rfl rfl rfl rfl) (pmk_oex (XE_BadSetting.oex XI_BadSetting) XI_BadSetting.iC XI_BadSetting.tI G_BadSetting___init__ (hr.mono (by first | decide | omega)) D_BadSetting___init__.b .nil pass0 rfl XE_BadSetting.g (pa_cons pe_str pa_nil))))
    (pss_nil))
  (pss_cons (ps_if (pt_not (pt_chain op_le op_le pe_int (pv 2) (pe_gint (by rfl) Cn.MOST_ROOM)))
    (pss_one (ps_raise rfl (takes_of rfl rfl rfl rfl) (pmk_oex (XE_BadSetting.oex XI_BadSetting) XI_BadSetting.iC XI_BadSetting.tI G_BadSetting___init__ (hr.mono (by first | decide | omega)) D_BadSetting___init__.b .nil pass0 rfl XE_BadSetting.g (pa_cons pe_str pa_nil))))
    (pss_nil))
  (pss_cons (ps_if (pt_not (pt_chain op_le op_le pe_int (pv 3) (pe_gint (by rfl) Cn.MOST_LATE)))
    (pss_one (ps_raise rfl (takes_of rfl rfl rfl rfl) (pmk_oex (XE_BadSetting.oex XI_BadSetting) XI_BadSetting.iC XI_BadSetting.tI G_BadSetting___init__ (hr.mono (by first | decide | omega)) D_BadSetting___init__.b .nil pass0 rfl XE_BadSetting.g (pa_cons pe_str pa_nil))))
    (pss_nil))
  (pss_one (ps_if (pt_not (pt_chain op_le op_le pe_int (pv 4) (pe_gint (by rfl) Cn.MOST_WAY)))
    (pss_one (ps_raise rfl (takes_of rfl rfl rfl rfl) (pmk_oex (XE_BadSetting.oex XI_BadSetting) XI_BadSetting.iC XI_BadSetting.tI G_BadSetting___init__ (hr.mono (by first | decide | omega)) D_BadSetting___init__.b .nil pass0 rfl XE_BadSetting.g (pa_cons pe_str pa_nil))))
    (pss_nil))))))), ?_⟩
  have lm : (s.mem.map V.int).length = s.mem.length := List.length_map _
  refine ⟨_, rfl, a, _, rfl, h1, rfl, _, _, rfl, _, _, rfl, _, _, rfl, _, _, rfl, rfl, ?_⟩
  and_intros
  have memBad : ¬ MemOk s.mem → errF CS "word" (.str "memory") H E := fun n => qe _ (.inl ⟨n, rfl⟩)
  by_cases c1 : 1 ≤ s.mem.length
  all_goals first
    | (refine iteB0 (decide_eq_false (by rw [lm]; omega)) ?_
       refine ⟨_, rfl, iteB (b := !false) rfl ?_⟩
       first | exact iteB rfl (init_err (memBad fun z => c1 z.1.1)) | exact init_err (memBad fun z => c1 z.1.1))
    | skip
  refine iteB (decide_eq_true (by rw [lm]; omega)) ?_
  refine ⟨_, _, rfl, rfl, _, rfl, ?_⟩
  by_cases c2 : s.mem.length ≤ 32
  all_goals first
    | (rw [decide_eq_false (show ¬ (((s.mem.map V.int).length : Nat) : Int) ≤ 32 by rw [lm]; omega)]
       refine iteB (b := !false) rfl ?_
       first | exact iteB rfl (init_err (memBad fun z => c2 z.1.2)) | exact init_err (memBad fun z => c2 z.1.2))
    | skip
  rw [decide_eq_true (show (((s.mem.map V.int).length : Nat) : Int) ≤ 32 by rw [lm]; omega)]
  refine iteB0 (b := !true) rfl ?_
  and_intros
  refine ⟨⟨_, h2⟩, fun D nD => ?_⟩
  refine lc_tup (xs := s.mem.map V.int) (fun i H' => Same H H' ∧ H' D = some (.lst (((s.mem.take i).filter badM).map V.int))) ⟨same_upd nD, upd_same⟩ (fun i H' _ h => same_t h.1 h2) (fun i y H' hi h => ?_) (fun H' h => ?_)
  · obtain ⟨x, rfl, ex, et⟩ := at_ints hi
    have li := (List.getElem?_eq_some_iff.mp ex).1
    have e2 : (s.mem.take (i + 1)).filter badM = (s.mem.take i).filter badM ++ (if badM x = true then [x] else []) := by
      rw [et, List.filter_append]
      congr 1
      cases b : badM x
      · rw [List.filter_cons_of_neg (by rw [b]; exact fun z => nomatch z)]; rfl
      · rw [List.filter_cons_of_pos b]; rfl
    have fin : badM x = true → ∃ acc, H' D = some (.lst acc) ∧ acc.length < sizeLine ∧ (Same H (upd H' D (.lst (acc ++ [.int x]))) ∧ (upd H' D (.lst (acc ++ [.int x]))) D = some (.lst (((s.mem.take (i + 1)).filter badM).map V.int))) := fun b => by
      refine ⟨_, h.2, ?_, same_mut h.1 nD, ?_⟩
      · rw [List.length_map]
        have := List.length_filter_le badM (s.mem.take i)
        rw [List.length_take] at this
        exact szl (by omega)
      · rw [upd_same, e2, if_pos b, List.map_append]
        rfl
    have nof : badM x = false → Same H H' ∧ H' D = some (.lst (((s.mem.take (i + 1)).filter badM).map V.int)) := fun b => by
      refine ⟨h.1, ?_⟩
      rw [e2, if_neg (by rw [b]; exact fun z => nomatch z), List.append_nil]
      exact h.2
    and_intros
    by_cases d1 : 0 ≤ x
    · refine iteB (decide_eq_true d1) ?_
      refine ⟨_, _, rfl, rfl, _, rfl, ?_⟩
      by_cases d2 : x ≤ 99
      · rw [decide_eq_true d2]
        exact iteB0 (b := !true) rfl (nof (by unfold badM; rw [decide_eq_true d1, decide_eq_true d2]; rfl))
      · rw [decide_eq_false d2]
        exact iteB (b := !false) rfl ⟨_, rfl, fin (by unfold badM; rw [decide_eq_false d2, Bool.and_false]; rfl)⟩
    · refine iteB0 (decide_eq_false d1) ?_
      exact ⟨_, rfl, iteB (b := !false) rfl ⟨_, rfl, fin (by unfold badM; rw [decide_eq_false d1]; rfl)⟩⟩
  · rw [show (s.mem.map V.int).length = s.mem.length from lm, List.take_length] at h
    and_intros
    intro L nL
    refine ⟨.list ((s.mem.filter badM).map .int), .list (([] : List Int).map .int), dp_ints (sql (same_upd nL _ _ h.2)), dp_ints (sql upd_same), lay_ints _, lay_ints [], ?_⟩
    rw [eqv_ints]
    have s2 := h.1.trans (same_upd (o := .lst []) nL)
    generalize upd H' L (.lst []) = H2 at s2 ⊢
    refine ⟨_, rfl, ?_⟩
    by_cases c3 : MemOk s.mem
    all_goals first
      | (refine iteB (by rw [decide_eq_false (fun e => c3 (memOk_of ⟨c1, c2⟩ e))]; rfl) ?_
         exact init_err ((memBad c3).after s2))
      | skip
    refine iteB0 (by rw [decide_eq_true (memOk_to c3)]; rfl) ?_
    and_intros
    have rBad : ¬ (1 ≤ s.rm ∧ s.rm ≤ 8) → errF CS "word" (.str "room") H2 E := fun n => (qe _ (.inr (.inl ⟨c3, n, rfl⟩))).after s2
    by_cases r1 : 1 ≤ s.rm
    all_goals first
      | (refine iteB0 (decide_eq_false r1) ?_
         refine ⟨_, rfl, iteB (b := !false) rfl ?_⟩
         exact init_err (rBad fun z => r1 z.1))
      | skip
    refine iteB (decide_eq_true r1) ?_
    refine ⟨_, _, rfl, rfl, _, rfl, ?_⟩
    by_cases r2 : s.rm ≤ 8
    all_goals first
      | (rw [decide_eq_false r2]
         refine iteB (b := !false) rfl ?_
         exact init_err (rBad fun z => r2 z.2))
      | skip
    rw [decide_eq_true r2]
    refine iteB0 (b := !true) rfl ?_
    and_intros
    have lBad : ¬ (0 ≤ s.lt ∧ s.lt ≤ 4) → errF CS "word" (.str "late") H2 E := fun n => (qe _ (.inr (.inr (.inl ⟨c3, ⟨r1, r2⟩, n, rfl⟩)))).after s2
    by_cases l1 : 0 ≤ s.lt
    all_goals first
      | (refine iteB0 (decide_eq_false l1) ?_
         refine ⟨_, rfl, iteB (b := !false) rfl ?_⟩
         exact init_err (lBad fun z => l1 z.1))
      | skip
    refine iteB (decide_eq_true l1) ?_
    refine ⟨_, _, rfl, rfl, _, rfl, ?_⟩
    by_cases l2 : s.lt ≤ 4
    all_goals first
      | (rw [decide_eq_false l2]
         refine iteB (b := !false) rfl ?_
         exact init_err (lBad fun z => l2 z.2))
      | skip
    rw [decide_eq_true l2]
    refine iteB0 (b := !true) rfl ?_
    and_intros
    have mBad : ¬ (1 ≤ s.ms ∧ s.ms ≤ 4) → errF CS "word" (.str "most") H2 E := fun n => (qe _ (.inr (.inr (.inr ⟨c3, ⟨r1, r2⟩, ⟨l1, l2⟩, n, rfl⟩)))).after s2
    by_cases w1 : 1 ≤ s.ms
    all_goals first
      | (refine iteB0 (decide_eq_false w1) ?_
         refine ⟨_, rfl, iteB (b := !false) rfl ?_⟩
         exact init_err (mBad fun z => w1 z.1))
      | skip
    refine iteB (decide_eq_true w1) ?_
    refine ⟨_, _, rfl, rfl, _, rfl, ?_⟩
    by_cases w2 : s.ms ≤ 4
    all_goals first
      | (rw [decide_eq_false w2]
         refine iteB (b := !false) rfl ?_
         exact init_err (mBad fun z => w2 z.2))
      | skip
    rw [decide_eq_true w2]
    refine iteB0 (b := !true) rfl ?_
    exact q (stg_good c3 ⟨r1, r2⟩ ⟨l1, l2⟩ ⟨w1, w2⟩) _ s2
end
end St

namespace St
open PySem PySem.Spec PyProof.Rows L2
/-! ### cells that are told to the heap, and taken out of it -/
def Cel (cl : List (Str × Addr)) (b : Addr) : Prop := ∃ x, cl.lookup x = some b
open Classical in
noncomputable def hide (cl : List (Str × Addr)) (H : Hp) : Hp := fun b => if Cel cl b then none else H b
open Classical in
noncomputable def over (cl : List (Str × Addr)) (F H : Hp) : Hp := fun b => if Cel cl b then F b else H b
/-- a cell, told -/
def Fz (o : Obj) : HO := .frz o (.ext fun _ => True)
def IsFz (H : Hp) (c : Addr) : Prop := ∃ o v, H c = some (Fz o) ∧ o.data = .cell v
section
variable {P : Program} {w : World} {cl : List (Str × Addr)} {F H H' : Hp} {h h' B : Heap} {b : Addr} {fs : List Addr} {u : HO}
theorem hide_in (c : Cel cl b) : hide cl H b = none := if_pos c
theorem hide_out (c : ¬ Cel cl b) : hide cl H b = H b := if_neg c
theorem over_in (c : Cel cl b) : over cl F H b = F b := if_pos c
theorem over_out (c : ¬ Cel cl b) : over cl F H b = H b := if_neg c
theorem hide_some (e : hide cl H b = some u) : ¬ Cel cl b ∧ H b = some u := by
  by_cases c : Cel cl b
  · rw [hide_in c] at e; cases e
  · rw [hide_out c] at e; exact ⟨c, e⟩
theorem noCel (fz : ∀ c, Cel cl c → IsFz H c) {o : HO} (e : H b = some o) (n : ∀ ob, o ≠ Fz ob) : ¬ Cel cl b := fun c => by
  obtain ⟨ob, v, z, _⟩ := fz b c
  rw [e] at z
  exact n ob (Option.some.inj z)
theorem own_fz {a : Addr} (ob : Obj) : HO.own a ≠ Fz ob := fun z => by unfold Fz at z; cases z
theorem tup_fz {xs : List V} (ob : Obj) : HO.tup xs ≠ Fz ob := fun z => by unfold Fz at z; cases z
theorem tbl_fz {ps : Array Value} (ob : Obj) : HO.tbl ps ≠ Fz ob := fun z => by unfold Fz at z; cases z
theorem fz_ok {o : Obj} (e : h.get? b = some o) : ObjOk P w H h b (Fz o) := ⟨e, True.intro, ⟨o, e⟩, fun _ _ _ _ => True.intro⟩
theorem hok_hide (x : HOk P w H h) (fz : ∀ c, Cel cl c → IsFz H c) : HOk P w (hide cl H) h := fun b u e => by
  obtain ⟨_, e⟩ := hide_some e
  exact (x b u e).stay (fun _ _ _ q => q) (fun d q => by rw [hide_out (noCel fz q own_fz)]; exact q) fun d xs q => by rw [hide_out (noCel fz q tup_fz)]; exact q
theorem hok_over (x : HOk P w H h) (n : ∀ c, Cel cl c → H c = none) (fz : ∀ c, Cel cl c → ∃ o, F c = some (Fz o) ∧ h.get? c = some o) : HOk P w (over cl F H) h := fun b u e => by
  by_cases c : Cel cl b
  · rw [over_in c] at e
    obtain ⟨o, e1, e2⟩ := fz b c
    rw [e1] at e
    cases Option.some.inj e
    exact fz_ok e2
  · rw [over_out c] at e
    have ne : ∀ {d : Addr} {o : HO}, H d = some o → ¬ Cel cl d := fun q z => by rw [n _ z] at q; cases q
    exact (x b u e).stay (fun _ _ _ q => q) (fun d q => by rw [over_out (ne q)]; exact q) fun d xs q => by rw [over_out (ne q)]; exact q
/-- what was done with the cells out of the heap, told with them in it -/
theorem un_over (un : Un fs [] (hide cl H) H' h h') (fz : ∀ c, Cel cl c → IsFz H c) : Un fs [] H (over cl H H') h h' where
  keep := fun b o q n hb hx => un.keep b o q (by
    by_cases c : Cel cl b
    · exact hide_in c
    · rw [hide_out c]; exact n) hb hx
  slot := fun b o q n hb hx => un.slot b o q (by
    by_cases c : Cel cl b
    · exact hide_in c
    · rw [hide_out c]; exact n) hb hx
  free := fun b o q n hx => by
    by_cases c : Cel cl b
    · rw [over_in c]; exact n
    · rw [over_out c]; exact un.free b o q (by rw [hide_out c]; exact n) hx
  there := un.there
  tups := fun b xs q => by
    have c := noCel fz q tup_fz
    rw [over_out c]
    exact un.tups b xs (by rw [hide_out c]; exact q)
  frzs := fun b o v q => by
    by_cases c : Cel cl b
    · rw [over_in c]; exact q
    · rw [over_out c]; exact un.frzs b o v (by rw [hide_out c]; exact q)
  tbls := fun b ps q => by
    have c := noCel fz q tbl_fz
    rw [over_out c]
    exact un.tbls b ps (by rw [hide_out c]; exact q)
theorem ub_over (un : UB fs (hide cl H) H' h B h') (fz : ∀ c, Cel cl c → IsFz H c) : UB fs H (over cl H H') h B h' where
  keep := fun b o q n hb => un.keep b o q (by
    by_cases c : Cel cl b
    · exact hide_in c
    · rw [hide_out c]; exact n) hb
  slot := un.slot
  free := fun b o q n => by
    by_cases c : Cel cl b
    · rw [over_in c]; exact n
    · rw [over_out c]; exact un.free b o q (by rw [hide_out c]; exact n)
  there := un.there
  tups := fun b xs q => by
    have c := noCel fz q tup_fz
    rw [over_out c]
    exact un.tups b xs (by rw [hide_out c]; exact q)
  frzs := fun b o v q => by
    by_cases c : Cel cl b
    · rw [over_in c]; exact q
    · rw [over_out c]; exact un.frzs b o v (by rw [hide_out c]; exact q)
  tbls := fun b ps q => by
    have c := noCel fz q tbl_fz
    rw [over_out c]
    exact un.tbls b ps (by rw [hide_out c]; exact q)
/-- what was done with the cells in the heap, told without them -/
theorem un_hide (un : Un fs [] (over cl F H) H' h h') (x : HOk P w H' h') (fz : ∀ c, Cel cl c → ∃ o, F c = some (Fz o) ∧ h.get? c = some o) (n : ∀ c, Cel cl c → H c = none) : Un fs [] H (hide cl H') h h' where
  keep := fun b o q nb hb hx => by
    by_cases c : Cel cl b
    · obtain ⟨o2, e1, e2⟩ := fz b c
      have z := un.frzs b o2 _ (by rw [over_in c]; exact e1)
      obtain ⟨z1, _⟩ := x b _ z
      rw [e2] at q
      cases q
      exact z1
    · exact un.keep b o q (by rw [over_out c]; exact nb) hb hx
  slot := fun b o q nb hb hx => by
    by_cases c : Cel cl b
    · obtain ⟨o2, e1, e2⟩ := fz b c
      have z := un.frzs b o2 _ (by rw [over_in c]; exact e1)
      obtain ⟨z1, _⟩ := x b _ z
      rw [e2] at q
      cases q
      exact ⟨o.slots, z1⟩
    · exact un.slot b o q (by rw [over_out c]; exact nb) hb hx
  free := fun b o q nb hx => by
    by_cases c : Cel cl b
    · exact hide_in c
    · rw [hide_out c]; exact un.free b o q (by rw [over_out c]; exact nb) hx
  there := un.there
  tups := fun b xs q => by
    have c : ¬ Cel cl b := fun z => by rw [n b z] at q; cases q
    rw [hide_out c]
    exact un.tups b xs (by rw [over_out c]; exact q)
  frzs := fun b o v q => by
    have c : ¬ Cel cl b := fun z => by rw [n b z] at q; cases q
    rw [hide_out c]
    exact un.frzs b o v (by rw [over_out c]; exact q)
  tbls := fun b ps q => by
    have c : ¬ Cel cl b := fun z => by rw [n b z] at q; cases q
    rw [hide_out c]
    exact un.tbls b ps (by rw [over_out c]; exact q)
theorem hok_hide2 (x : HOk P w H h) (fz : ∀ c, Cel cl c → ∃ o, H c = some (Fz o)) : HOk P w (hide cl H) h := fun b u e => by
  obtain ⟨_, e⟩ := hide_some e
  have nc : ∀ {d : Addr} {o : HO}, H d = some o → (∀ ob, o ≠ Fz ob) → ¬ Cel cl d := fun q k z => by
    obtain ⟨ob, z⟩ := fz _ z
    rw [q] at z
    exact k ob (Option.some.inj z)
  exact (x b u e).stay (fun _ _ _ q => q) (fun d q => by rw [hide_out (nc q own_fz)]; exact q) fun d xs q => by rw [hide_out (nc q tup_fz)]; exact q
end
end St

namespace St
open PySem PySem.Spec PyProof.Rows L2
/-- the lambda object at f, its code at c', its cells cl -/
def LamO (f c' : Addr) (q : Str) (params : Arguments) (body : Expr) (scope : Scope) (cl : List (Str × Addr)) : HO := .ext fun h => ∃ pm ctv, h.get? f = some (PySem.W.kla_obj "<lambda>" q params body scope cl pm c' ctv)
/-- its cells, told: the names N hold σ -/
structure PubC (H : Hp) (N : List Str) (scope : Scope) (cl : List (Str × Addr)) (σ : L2.St) : Prop where
  inj : ∀ x y c, cl.lookup x = some c → cl.lookup y = some c → x = y
  has : ∀ y, scope.names.lookup y = some .free → ∃ c, cl.lookup y = some c
  fz : ∀ c, Cel cl c → IsFz H c
  at_ : ∀ (i : Nat) (x : Str) (v : V), N[i]? = some x → σ[i]? = some (some v) → scope.names.lookup x = some .free → ∃ c o u, cl.lookup x = some c ∧ H c = some (Fz o) ∧ o.data = .cell (some u) ∧ RelV v u
  len : σ.length = N.length
theorem PubC.ext {H H' : Hp} {N : List Str} {scope : Scope} {cl : List (Str × Addr)} {σ : L2.St} (p : PubC H N scope cl σ) (e : ∀ c o, H c = some (Fz o) → H' c = some (Fz o)) : PubC H' N scope cl σ :=
  ⟨p.inj, p.has, fun c k => let ⟨o, v, a, b⟩ := p.fz c k; ⟨o, v, e _ _ a, b⟩, fun i x v h1 h2 h3 => let ⟨c, o, u, a, b, d⟩ := p.at_ i x v h1 h2 h3; ⟨c, o, u, a, e _ _ b, d⟩, p.len⟩
abbrev lenv (q : Str) (scope : Scope) (L f c' : Addr) (cl : List (Str × Addr)) : Env := PySem.W.envX q scope L f (.ref c') cl
/-- the context of a lambda's body, entered at s from the frames outer -/
def lamCxP (P : Program) (w : World) (K : PySem.W.Frag) (mg : Str → Option Value) (base : Heap) (N : List Str) (A : Around) (outer : List Env) (s : Shared) (H : Hp) (E : XK) (q : Str) (scope : Scope) (f c' : Addr) (cl : List (Str × Addr)) : Cx where
  prog := P
  w := w
  K := K
  mg := mg
  base := base
  A := A.deeper (lenv q scope s.heap.objs.size f c' cl)
  N := N
  s_0 := s
  H_0 := H
  env := lenv q scope s.heap.objs.size f c' cl
  outer := outer
  stack := lenv q scope s.heap.objs.size f c' cl :: outer
  ex := []
  fn := fun _ => false
  calm := true
  pn := []
  xe := fun e s' => wpAny (model P w) (A.deeper (lenv q scope s.heap.objs.size f c' cl)) (leaving (lenv q scope s.heap.objs.size f c' cl) e) (fun _ s'' => L2.CX P w outer H s E e s'') (fun e' s'' => L2.CX P w outer H s E e' s'') s'
/-- a lambda's names: no parameter, no name of its own -/
structure LamN (scope : Scope) : Prop where
  kind : scope.kind = .function
  co : scope.isCoroutine = false
  gen : scope.isGenerator = false
  own : ∀ y ∈ scope.names, y.2 ≠ .local ∧ y.2 ≠ .cell
def lamNB (scope : Scope) : Bool := decide (scope.kind = .function) && !scope.isCoroutine && !scope.isGenerator && scope.names.all fun y => !decide (y.2 = .local) && !decide (y.2 = .cell)
theorem lamN_by {scope : Scope} (h : lamNB scope = true) : LamN scope := by
  unfold lamNB at h
  simp only [Bool.and_eq_true, Bool.not_eq_true', decide_eq_true_eq, decide_eq_false_iff_not, List.all_eq_true] at h
  obtain ⟨⟨⟨h1, h2⟩, h3⟩, h4⟩ := h
  exact ⟨h1, h2, h3, fun y hy => h4 y hy⟩
section
variable {P : Program} {w : World} {K : PySem.W.Frag} {mg : Str → Option Value} {base : Heap} {N : List Str} {A : Around} {outer : List Env} {s : Shared} {H : Hp} {E : XK} {q : Str} {scope : Scope} {f c' : Addr} {cl : List (Str × Addr)} {σ : L2.St} {h₁ : Heap} {tk : Nat}
theorem env0_hide (e0 : Env0 P w K mg base A outer s H) (fz : ∀ c, Cel cl c → IsFz H c) : Env0 P w K mg base A outer s (hide cl H) :=
  ⟨e0.frames, e0.mod, fun b o e => ⟨(e0.bs b o e).1, by
    by_cases c : Cel cl b
    · exact hide_in c
    · rw [hide_out c]; exact (e0.bs b o e).2⟩, e0.bsz, e0.funs, fun b hb => by
    by_cases c : Cel cl b
    · exact hide_in c
    · rw [hide_out c]; exact e0.frf b hb, hok_hide e0.hok fz, e0.bare⟩
theorem lamP_start (L : LamN scope) (e0 : Env0 P w K mg base A outer s H) (hd : A.handled = none) (p : PubC H N scope cl σ)
    (hns : h₁.Ns s.heap.objs.size fun y => ([] : List (Str × Value)).reverse.lookup y) (kpt : ∀ b o, s.heap.get? b = some o → h₁.get? b = some o) :
    Inv (lamCxP P w K mg base N A outer s (hide cl H) E q scope f c' cl) [] σ (hide cl H) { s with heap := h₁, toks := tk } := by
  have e1 := env0_hide e0 p.fz
  have noA : ∀ b : Addr, b ∉ (lamCxP P w K mg base N A outer s (hide cl H) E q scope f c' cl).ex := fun b z => absurd (show b ∈ ([] : List Addr) from z) (by simp)
  have cellK : ∀ {c : Addr} {o : Obj} {v : Option Value}, H c = some (Fz o) → o.data = .cell v → h₁.IsCell c v := fun {c o v} e d => ⟨o, kpt _ _ (e0.hok c _ e).1, d⟩
  refine ⟨⟨e0.mod, L.kind, rfl, rfl, Nat.le_refl _, p.inj, fun y isK => ?_, fun y c z _ => ?_, fun _ => hd, Around.frames_deeper e0.frames, .inr ⟨rfl, rfl⟩, fun b z => absurd z (noA b), e1.bs, e0.bsz, fun b _ _ => noA b,
      fun b z => absurd z (noA b), e0.funs, e1.frf⟩,
    rfl, e0.bare, Un.kept kpt, ⟨_, hns, fun i y v e1 e2 e3 => ?_⟩, fun y c e => ?_, e1.hok.fresh (Nat.le_refl _), fun y c e => hide_in ⟨y, e⟩, fun r hr => absurd (show r ∈ ([] : List (Addr × Obj)) ++ [] from hr) (by simp), e1.hok.kept kpt, p.len⟩
  · have isK : scope.names.lookup y = some .cell ∨ scope.names.lookup y = some .free := isK
    rcases isK with isK | isK
    · exact absurd rfl (L.own _ (PySem.mem_of_lookup isK)).2
    · exact p.has y isK
  · have z : false = true := z
    cases z
  · have e3 : Vis scope y := e3
    rcases e3 with k | k | k
    · exact absurd rfl (L.own _ (PySem.mem_of_lookup k)).1
    · exact absurd rfl (L.own _ (PySem.mem_of_lookup k)).2
    · obtain ⟨c, o, u, a, b, d, r⟩ := p.at_ i y v e1 e2 k
      exact ⟨u, r, .inr ⟨.inr k, c, a, cellK b d⟩⟩
  · obtain ⟨o, v, a, b⟩ := p.fz c ⟨y, e⟩
    exact ⟨v, cellK a b⟩
end
/-- the cells are out of the heap -/
def NoC (cl : List (Str × Addr)) (H : Hp) : Prop := ∀ c, Cel cl c → H c = none
/-- what a published lambda's call asks of its reading tb -/
def tLamP (f c' : Addr) (q : Str) (params : Arguments) (body : Expr) (scope : Scope) (N : List Str) (tb : XK → TE) : Hp → VK → XK → Prop := fun H Q E =>
  ∃ (cl : List (Str × Addr)) (σ : L2.St), H f = some (LamO f c' q params body scope cl) ∧ H c' = some (LamX.CodeO c' q) ∧ PubC H N scope cl σ ∧ tb (fun cls d H' => NoC cl H' → E cls d (over cl H H')) σ (hide cl H) fun v H' => NoC cl H' → Q v (over cl H H')
section
variable {P : Program} {w : World} {K : PySem.W.Frag} {mg : Str → Option Value} {base : Heap} {N : List Str} {A : Around} {outer : List Env} {s : Shared} {H : Hp} {E : XK} {Q : VK} {q : Str} {params : Arguments} {body : Expr} {scope : Scope} {f c' : Addr} {tb : XK → TE} {k : Nat}
theorem lam_run (L : LamN scope) (hr : Room (k + 1) A) (e0 : Env0 P w K mg base A outer s H)
    (hbind : ∀ (cl : List (Str × Addr)) (pm cv ctv : Value), bindArgs (PySem.W.kla_fn "<lambda>" q params body scope cl pm cv ctv) ⟨[], []⟩ = pure [])
    (hbody : ∀ (A : Around) (outer : List Env) (s : Shared) (H : Hp) (E : XK) (f c' : Addr) (cl : List (Str × Addr)), Room k (A.deeper (lenv q scope s.heap.objs.size f c' cl)) → PE (lamCxP P w K mg base N A outer s H E q scope f c' cl) body (tb E))
    (h : tLamP f c' q params body scope N tb H Q E) :
    codeAny (model P w) A (.call (.ref f) ⟨[], []⟩) (CR (L2.CX P w) outer P w H s Q E) s := by
  obtain ⟨cl, σ, hf, hc, p, ht⟩ := h
  obtain ⟨⟨pm, ctv, fAt⟩, _, _⟩ := e0.hok f _ hf
  obtain ⟨⟨oc, vs, t, oAt, oFs, oQ⟩, _, _⟩ := e0.hok c' _ hc
  have noLim : s.heap.NoLimit := e0.mod.nolimit.keeps fun b o e => (e0.bs b o e).1
  refine PySem.W.kla_callFunE hr.depth fAt rfl L.co L.gen rfl ⟨c', oc, vs, t, rfl, oAt, oFs, oQ⟩ ?_
  rw [hbind]
  refine wpAny_pure (wpAny_newFunctionEnv (fun y isK => (L.own y isK).2) (fun y isK => absurd isK (by simp)) (fun h₁ hns hsb => ⟨noLim.fresh _ hsb, ?_⟩) L.kind)
  show codeAny _ _ (.expr body (lenv q scope s.heap.objs.size f c' cl)) _ _
  have kpt : ∀ b o, s.heap.get? b = some o → h₁.get? b = some o := fun b o e => hsb.extBut b o (Nat.ne_of_lt (Heap.lt_size e)) (Heap.get?_push_of_some _ e)
  have J := lamP_start (E := fun cls d H' => NoC cl H' → E cls d (over cl H H')) (q := q) (f := f) (c' := c') (tk := s.toks + ([] : List (Str × Value)).length) L e0 hr.hd p hns kpt
  have cellB : ∀ {B : Heap}, (∀ b o, s.heap.get? b = some o → hide cl H b = none → b ∉ frs outer → B.get? b = some o) → ∀ c, Cel cl c → ∃ o, H c = some (Fz o) ∧ B.get? c = some o := fun k c hc => by
    obtain ⟨o, v, a, d⟩ := p.fz c hc
    have ho := (e0.hok c _ a).1
    refine ⟨o, a, k c o ho (hide_in hc) fun z => ?_⟩
    rw [e0.frf c z] at a
    cases a
  have cv : ∀ (u : Value) (s' : Shared), L2.CX P w outer (hide cl H) s (fun cls d H' => NoC cl H' → E cls d (over cl H H')) u s' → L2.CX P w outer H s E u s' := fun u s' x => by
    obtain ⟨a, B, H', cls, d, e, fl, ok, ub, na, os, bare, w'⟩ := x
    have n : ∀ c, Cel cl c → H' c = none := fun c hc => by
      obtain ⟨o, v, a, _⟩ := p.fz c hc
      exact ub.free c o (e0.hok c _ a).1 (hide_in hc)
    refine ⟨a, B, over cl H H', cls, d, e, fl, hok_over ok n (cellB ub.keep), ub_over ub p.fz, ?_, os, bare, w' n⟩
    by_cases hc : Cel cl a
    · obtain ⟨o, _, z⟩ := cellB ub.keep a hc
      have nb : B.get? a = none := fl.2.1
      rw [nb] at z
      cases z
    · rw [over_out hc]; exact na
  refine PySem.W.kla_codeExpr (wpAny_mono ((hbody A outer s (hide cl H) _ f c' cl (hr.deeper _)).run [] _ σ (hide cl H) _ J ht) (fun v s' hq => ?_) fun e s' hq => ?_)
  · obtain ⟨w', H', J', rv, hq⟩ := hq
    have un : Un (frs outer) [] (hide cl H) H' s.heap s'.heap := J'.base
    have n : ∀ c, Cel cl c → H' c = none := fun c hc => J'.freeC _ c hc.choose_spec
    refine ⟨w', over cl H H', J'.os, J'.bare, un_over un p.fz, hok_over J'.hok n (cellB fun b o z1 z2 z3 => un.keep b o z1 z2 z3 (by simp)), rv, hq n⟩
  · exact wpAny_mono hq (fun _ s'' x => cv _ _ x) fun e' s'' x => cv _ _ x
end
end St

namespace St
open PySem PySem.Spec PyProof.Rows L2 LamX
section
variable {X : Cx} {pins : List (Addr × Obj)} {σ : L2.St} {H : Hp} {s : Shared}
theorem lamO_ok {P : Program} {w : World} {H : Hp} {h : Heap} {f c' : Addr} {q : Str} {params : Arguments} {body : Expr} {scope : Scope} {cl : List (Str × Addr)} {pm ctv : Value} (e : h.get? f = some (PySem.W.kla_obj "<lambda>" q params body scope cl pm c' ctv)) : ObjOk P w H h f (LamO f c' q params body scope cl) :=
  ⟨⟨pm, ctv, e⟩, ⟨_, e⟩, fun _ _ ⟨pm, ctv, a⟩ st => ⟨pm, ctv, st _ a⟩⟩
/-- a lambda is made and told -/
theorem lam_mk {T : List (Addr × Str)} {c P : Addr} {params : Arguments} {body : Expr} {scope : Scope} {pos : Pos} {E : Value → Shared → Prop} {Q : Value → Shared → Prop} (I : Inv X pins σ H s) (TB : TabB X.base X.mg c P) (hcode : X.env.code = .ref c)
    (hm : (P, X.env.qual ++ "<lambda>") ∈ T) (hu : ∀ p ∈ T, p.1 = P → p.2 = X.env.qual ++ "<lambda>") (hT : Tabs T H) (hdef : defaultsOf params X.env = ([], [])) (hfree : ∀ y ∈ scope.names, y.2 = .free → ∃ c, X.env.cells.lookup y.1 = some c)
    (h : ∀ (f c' : Addr) (H1 : Hp) (s' : Shared), Inv X pins σ H1 s' → ExtN H H1 → Tabs T H1 → H f = none →
      H1 f = some (LamO f c' (X.env.qual ++ "<lambda>") params body scope (cloFrom X.env.cells scope.names [])) → H1 c' = some (CodeO c' (X.env.qual ++ "<lambda>")) → Q (.ref f) s') :
    wpAny (model X.prog X.w) X.A (eval (.Lambda params body scope pos) X.env) Q E s := by
  obtain ⟨tr, eP, okT, tells⟩ := hT _ hm
  refine PySem.W.kla_eval hdef ?_
  have atP : s.heap.BuiltinsAt X.mg P := TB.bm.keeps I.bk
  have lieP : s.heap.get? P = some { cls := .none, data := .fields tr } := I.hok P _ eP
  have fin : ∀ (c' : Addr) (ctv : Value) (h' : Heap) (tk : Nat) (H0 : Hp), Inv X pins σ H0 { s with heap := h', toks := tk } → s.heap.objs.size ≤ h'.objs.size → ExtN H H0 → Tabs T H0 → H0 c' = some (CodeO c' (X.env.qual ++ "<lambda>")) →
      Q (.ref h'.objs.size) { s with heap := h'.push (PySem.W.kla_obj "<lambda>" (X.env.qual ++ "<lambda>") params body scope (cloFrom X.env.cells scope.names []) ((X.mg "__name__").getD .none) c' ctv), toks := tk } := by
    intro c' ctv h' tk H0 J0 sz eN tab0 hc
    have nf : H0 h'.objs.size = none := J0.hok.fresh (Nat.le_refl _)
    have J1 := J0.laid (a := h'.objs.size) (o := LamO h'.objs.size c' (X.env.qual ++ "<lambda>") params body scope (cloFrom X.env.cells scope.names [])) (t' := tk)
      (h' := h'.push (PySem.W.kla_obj "<lambda>" (X.env.qual ++ "<lambda>") params body scope (cloFrom X.env.cells scope.names []) ((X.mg "__name__").getD .none) c' ctv)) (fun b o e => Heap.get?_push_of_some _ e) (Nat.le_refl _) (lamO_ok (Heap.get?_push_size _ rfl))
    have ext : ∀ b o, H0 b = some o → (upd H0 h'.objs.size (LamO h'.objs.size c' (X.env.qual ++ "<lambda>") params body scope (cloFrom X.env.cells scope.names []))) b = some o := fun b o e => by rw [upd_ne (ne_of_none e nf)]; exact e
    exact h _ c' _ _ J1 (eN.trans (ExtN.of ext)) (tab0.ext ext) (I.hok.fresh sz) upd_same (ext _ _ hc)
  cases hc : codeAmong pos tr.toList with
  | none =>
    refine PySem.W.kla_makeFunction (mg := X.mg) (c := c) (P := P) (ps := tr) (closure_ok hfree) I.ok.glob (I.mod.glob.keeps I.bk) hcode (TB.code.keeps I.bk) lieP okT hc TB.gP atP fun c' ctv h' tk hx past below isRec tab2 => ?_
    obtain ⟨cc, ob, vs, t, q2, eo, ed, ev⟩ := isRec
    cases q2
    have freshC : H c' = none := I.hok.fresh past
    have J1 := inv_table (t' := tk) (more := #[rawInt pos.line, rawInt pos.col, .ref c']) (h' := h') I eP (fun b o hb e => hx b o hb e) tab2 past ⟨ob, vs, t, eo, ed, ev⟩
    have ext1 : ExtN H (upd (upd H P (.tbl (tr ++ #[rawInt pos.line, rawInt pos.col, .ref c']))) c' (CodeO c' (X.env.qual ++ "<lambda>"))) := fun b o e n => by
      rw [upd_ne (ne_of_none e freshC), upd_ne (fun z => n tr (Option.some.inj (e.symm.trans (by rw [z]; exact eP))))]
      exact e
    have asL : (tr ++ #[rawInt pos.line, rawInt pos.col, .ref c']).toList = tr.toList ++ [rawInt pos.line, rawInt pos.col, .ref c'] := by simp
    refine fin c' ctv h' tk _ J1 (Nat.le_trans past (Nat.le_of_lt below)) ext1 (fun p hp => ?_) upd_same
    by_cases hb : p.1 = P
    · rw [hu p hp hb, hb]
      refine ⟨_, by rw [upd_ne (ne_of_none eP freshC), upd_same], by rw [asL]; exact PySem.TriplesOk_snoc _ _ _ _ okT, fun p' cv inC => ?_⟩
      rw [asL] at inC
      rcases among_app _ okT inC with z | z
      · obtain ⟨cz, q1, q2⟩ := tells p' cv z
        exact ⟨cz, q1, ext1 _ _ q2 codeO_ne⟩
      · exact ⟨c', z, upd_same⟩
    · obtain ⟨tr', b1, b2, b3⟩ := hT p hp
      refine ⟨tr', by rw [upd_ne (ne_of_none b1 freshC), upd_ne hb]; exact b1, b2, fun p' cv inC => ?_⟩
      obtain ⟨cz, q1, q2⟩ := b3 p' cv inC
      exact ⟨cz, q1, ext1 _ _ q2 codeO_ne⟩
  | some cv =>
    obtain ⟨c', e, isCo⟩ := tells pos cv hc
    subst e
    refine PySem.W.kla_makeFunctionHit (mg := X.mg) (c := c) (P := P) (ps := tr) (closure_ok hfree) I.ok.glob (I.mod.glob.keeps I.bk) hcode (TB.code.keeps I.bk) lieP okT hc atP fun ctv h' tk hx hsz => ?_
    exact fin c' ctv h' tk H (I.kept hx) hsz (ExtN.refl H) hT isCo
/-- the lambda as a value -/
def tLamM (T : List (Addr × Str)) (q : Str) (params : Arguments) (body : Expr) (scope : Scope) (cells : List (Str × Addr)) : TE := fun _ H Q => Tabs T H ∧ ∀ (f c' : Addr) (H1 : Hp), ExtN H H1 → Tabs T H1 → H f = none → H1 f = some (LamO f c' q params body scope (cloFrom cells scope.names [])) → H1 c' = some (CodeO c' q) → Q (.ref f) H1
theorem pe_lamM {T : List (Addr × Str)} {c P : Addr} {params : Arguments} {body : Expr} {scope : Scope} {pos : Pos} (TB : TabB X.base X.mg c P) (hcode : X.env.code = .ref c) (hm : (P, X.env.qual ++ "<lambda>") ∈ T) (hu : ∀ p ∈ T, p.1 = P → p.2 = X.env.qual ++ "<lambda>") (L : LamS X.env.scope scope) (hdef : defaultsOf params X.env = ([], []) := by rfl) :
    PE X (.Lambda params body scope pos) (tLamM T (X.env.qual ++ "<lambda>") params body scope X.env.cells) := by
  refine ⟨fun pins s σ H Q I h => ?_⟩
  obtain ⟨hT, h⟩ := h
  exact lam_mk I TB hcode hm hu hT hdef (L.has I.ok) fun f c' H1 s' I1 eN T1 nf hf hc => ⟨.ref f, H1, I1, rfl, h f c' H1 eN T1 nf hf hc⟩
end
end St

namespace St
open PySem PySem.Spec PyProof.Rows L2 LamX
/-! ### cells told at a call, at a return -/
/-- H3 is H with this frame's cells told -/
structure PubF (N : List Str) (env : Env) (σ : L2.St) (H H3 : Hp) : Prop where
  same : Same H H3
  fz : ∀ c, Cel env.cells c → IsFz H3 c
  no : NoC env.cells H
  at_ : ∀ (i : Nat) (x : Str) (v : V), N[i]? = some x → σ[i]? = some (some v) → (env.kindOf x = some .cell ∨ env.kindOf x = some .free) → ∃ c o u, env.cells.lookup x = some c ∧ H3 c = some (Fz o) ∧ o.data = .cell (some u) ∧ RelV v u
  inj : ∀ x y c, env.cells.lookup x = some c → env.cells.lookup y = some c → x = y
  has : ∀ x, (env.kindOf x = some .cell ∨ env.kindOf x = some .free) → ∃ c, env.cells.lookup x = some c
  len : σ.length = N.length
theorem clo_lookup {cells : List (Str × Addr)} {names : List (Str × NameKind)} (capt : ∀ y ∈ names, y.2 = .free → ∃ c, cells.lookup y.1 = some c) {y : Str} {c : Addr} (el : (cloFrom cells names []).lookup y = some c) : cells.lookup y = some c := by
  rcases cloFrom_mem (PySem.mem_of_lookup el) with inA | ⟨isN, isC⟩
  · cases inA
  · obtain ⟨ca, lc⟩ := capt _ isN rfl
    have lc : cells.lookup y = some ca := lc
    have e2 : c = ca := by
      rw [isC, lc] <;> rfl
    rw [e2]
    exact lc
/-- so are those that a lambda has taken -/
theorem PubF.lam {N : List Str} {env : Env} {σ : L2.St} {H H3 : Hp} {scope : Scope} (p : PubF N env σ H H3) (L : LamS env.scope scope) : PubC H3 N scope (cloFrom env.cells scope.names []) σ := by
  have kd : ∀ y ∈ scope.names, y.2 = .free → env.kindOf y.1 = some .cell ∨ env.kindOf y.1 = some .free := fun y hy el => L.free y hy el
  have capt : ∀ y ∈ scope.names, y.2 = .free → ∃ c, env.cells.lookup y.1 = some c := fun y hy el => p.has _ (kd y hy el)
  have look : ∀ {y}, scope.names.lookup y = some .free → ∃ c, (cloFrom env.cells scope.names []).lookup y = some c := fun {y} atN => by
    have hy : (y, NameKind.free) ∈ scope.names := PySem.mem_of_lookup atN
    exact L2.mem_lookup (cloFrom_has (cells := env.cells) (acc := []) hy)
  refine ⟨fun x y c e1 e2 => p.inj x y c (clo_lookup capt e1) (clo_lookup capt e2), fun y h => look h, fun c ⟨x, el⟩ => p.fz c ⟨x, clo_lookup capt el⟩, fun i x v isN isC h3 => ?_, p.len⟩
  obtain ⟨c, o, u, a, b, d, r⟩ := p.at_ i x v isN isC (kd (x, .free) (PySem.mem_of_lookup h3) rfl)
  obtain ⟨c2, el⟩ := look h3
  have z := clo_lookup capt el
  rw [a] at z
  cases Option.some.inj z
  exact ⟨c, o, u, el, b, d, r⟩
section
variable {X : Cx} {pins : List (Addr × Obj)} {σ : L2.St} {H : Hp} {s : Shared}
def told (h : Heap) : Hp := fun c => (h.get? c).map Fz
theorem told_at (I : Inv X pins σ H s) : ∀ c, Cel X.env.cells c → ∃ o, told s.heap c = some (Fz o) ∧ s.heap.get? c = some o := fun c ⟨x, e⟩ => by
  obtain ⟨v, o, ho, hd⟩ := I.cell x c e
  exact ⟨o, by unfold told; rw [ho]; rfl, ho⟩
theorem no_cells (I : Inv X pins σ H s) : NoC X.env.cells H := fun c ⟨x, e⟩ => I.freeC x c e
theorem pub_of (I : Inv X pins σ H s) (vis : ∀ x, (X.env.kindOf x = some .cell ∨ X.env.kindOf x = some .free) → Vis X.env.scope x) : PubF X.N X.env σ H (over X.env.cells (told s.heap) H) := by
  refine ⟨fun b o e => ?_, fun c hc => ?_, no_cells I, fun i x v h1 h2 h3 => ?_, I.ok.inj, I.ok.has, I.len⟩
  · rw [over_out fun c => by rw [no_cells I b c] at e; cases e]
    exact e
  · obtain ⟨x, e⟩ := hc
    obtain ⟨v, o, ho, hd⟩ := I.cell x c e
    refine ⟨o, v, ?_, hd⟩
    rw [over_in ⟨x, e⟩]
    unfold told
    rw [ho]
    rfl
  · obtain ⟨m, hn, hl⟩ := I.loc
    obtain ⟨u, r, z⟩ := hl i x v h1 h2 (vis x h3)
    rcases z with ⟨k, _⟩ | ⟨_, c, e, o, ho, hd⟩
    · rcases h3 with q | q <;> rw [k] at q <;> cases q
    · refine ⟨c, o, u, e, ?_, hd, r⟩
      rw [over_in ⟨x, e⟩]
      unfold told
      rw [ho]
      rfl
theorem vis_of (x : Str) (h : X.env.kindOf x = some .cell ∨ X.env.kindOf x = some .free) : Vis X.env.scope x := .inr h
/-- .. at a return: the cells are new to the caller -/
theorem un_pub {cl : List (Str × Addr)} {F H0 : Hp} {h0 : Heap} {fs : List Addr} (un : Un fs [] H0 H h0 s.heap) (n : NoC cl H) (a : ∀ c, Cel cl c → h0.objs.size ≤ c) : Un fs [] H0 (over cl F H) h0 s.heap where
  keep := un.keep
  slot := un.slot
  free := fun b o q nb hx => by
    rw [over_out fun c => absurd (Heap.lt_size q) (Nat.not_lt.mpr (a b c))]
    exact un.free b o q nb hx
  there := un.there
  tups := fun b xs q => by
    have z := un.tups b xs q
    rw [over_out fun c => by rw [n b c] at z; cases z]
    exact z
  frzs := fun b o v q => by
    have z := un.frzs b o v q
    rw [over_out fun c => by rw [n b c] at z; cases z]
    exact z
  tbls := fun b ps q => by
    obtain ⟨more, z⟩ := un.tbls b ps q
    refine ⟨more, ?_⟩
    rw [over_out fun c => by rw [n b c] at z; cases z]
    exact z
end
/-- statements that end in a return: the slots are told there -/
structure PSsF (X : Cx) (st : List Stmt) (t : (L2.St → VK) → L2.St → Hp → Prop) : Prop where
  run : ∀ (pins : List (Addr × Obj)) (s : Shared) (σ : L2.St) (H : Hp) (R : L2.St → VK), Inv X pins σ H s → t R σ H → wpAny (model X.prog X.w) X.A (execs st X.env) (fun f s' => ∃ (u : Value) (v : V) (σ' : L2.St) (H' : Hp), f = .ret u ∧ Inv X pins σ' H' s' ∧ RelV v u ∧ R σ' v H') X.xe s
section
variable {X : Cx}
theorem psf_ret {e : Expr} {te : TE} {pos : Pos} (he : PE X e te) : PSsF X [.Return (some e) pos] (fun R σ H => te σ H fun v H1 => R σ v H1) := by
  refine ⟨fun pins s σ H R I h => ?_⟩
  exact wpAny_execs_cons (wpAny_Return_some (thn (he.run pins s σ H _ I h) fun v s1 ⟨x, H1, I1, r1, q1⟩ => ⟨v, x, σ, H1, rfl, I1, r1, q1⟩))
theorem psf_cons {st : Stmt} {rest : List Stmt} {t : TS} {u : (L2.St → VK) → L2.St → Hp → Prop} (h1 : PS X st t) (h2 : PSsF X rest u) : PSsF X (st :: rest) (fun R σ H => t { nx := fun σ' H' => u R σ' H', rt := fun _ _ => False } σ H) := by
  refine ⟨fun pins s σ H R I h => ?_⟩
  refine wpAny_execs_cons (thn (h1.run pins s σ H _ I h) fun f s1 q => ?_)
  cases f with
  | next =>
    obtain ⟨σ', H', I', q⟩ := q
    exact h2.run pins s1 σ' H' R I' q
  | ret v =>
    obtain ⟨_, _, _, _, _, q⟩ := q
    exact q.elim
  | brk =>
    obtain ⟨_, _, _, q⟩ := q
    exact q.elim
  | cont =>
    obtain ⟨_, _, _, q⟩ := q
    exact q.elim
theorem PSsF.nox {st : List Stmt} {t : (L2.St → VK) → L2.St → Hp → Prop} (h : PSsF X.nox st t) : PSsF X st t := ⟨fun pins s σ H R I hw =>
  wpAny_mono (h.run pins s σ H R (I.wish _) hw) (fun _ _ ⟨u, v, σ', H', e, I', r, q⟩ => ⟨u, v, σ', H', e, I'.unwish, r, q⟩) fun _ _ z => False.elim z⟩
end
/-- a def whose code object is at c -/
structure FunC (K : PySem.W.Frag) (x qual : Str) (st : Stmt) (f c : Addr) (fd : FuncData) : Prop where
  ex : ∃ (oc : Value) (od : Option Addr) (kV doc pm : Value) (an : Option Addr) (ct : Value) (osl : Array (Option Value)),
    fd = PySem.W.fnOf x qual (defArgs st) (defBody st) (defScope st) .none kV doc pm an (.ref c) ct ∧ K.lookup f = some ⟨oc, od, .func fd, osl⟩ ∧ PySem.W.codeIn K (.ref c) qual = true
  kp : PySem.W.keepIn K (.ref f) = true
theorem FunC.fun {K : PySem.W.Frag} {x qual : Str} {st : Stmt} {f c : Addr} {fd : FuncData} (F : FunC K x qual st f c fd) : Fun K x qual st f fd :=
  ⟨let ⟨oc, od, kV, doc, pm, an, ct, osl, e, l, cd⟩ := F.ex; ⟨oc, od, kV, doc, pm, an, .ref c, ct, osl, e, l, cd⟩, F.kp⟩
section
variable {P : Program} {w : World} {K : PySem.W.Frag} {mg : Str → Option Value} {base : Heap}
/-- a def that makes lambdas: its code object is known -/
theorem FunC.ok {x qual : Str} {st : Stmt} {f c : Addr} {fd : FuncData} {N ps : List Str} {k : Nat} {sp : Sp} (F : FunC K x qual st f c fd) (S : FnScope N ps (defScope st)) (len : ∀ vs H Q E, sp vs H Q E → vs.length = ps.length)
    (hbody : ∀ (A : Around) (outer : List Env) (s : Shared) (H : Hp) (vs : List V) (Q : VK) (E : XK), Room k (A.deeper (envOfC qual (defScope st) s.heap.objs.size f (.ref c))) → sp vs H Q E →
      ∃ t, PSs (cxOf CX0 P w K mg base N qual (defScope st) f (.ref c) A outer s H E).nox (defBody st) t ∧ t { nx := fun _ H' => Q .non H', rt := Q } (start N vs) H) : FnOk P w K mg base CX0 (k + 1) f fd ps sp := by
  obtain ⟨oc, od, kV, doc, pm, an, ct, osl, rfl, laid, isCode⟩ := F.ex
  refine fn_of laid isCode S len fun A outer s H vs Q E room asked => ?_
  obtain ⟨t, h, q⟩ := hbody A outer s H vs Q E room asked
  exact ⟨t, h.nox, q⟩
/-- a def that returns lambdas: at the return its cells are told -/
theorem FunC.okP {x qual : Str} {st : Stmt} {f c : Addr} {fd : FuncData} {N ps : List Str} {k : Nat} {sp : Sp} (F : FunC K x qual st f c fd) (S : FnScope N ps (defScope st)) (len : ∀ vs H Q E, sp vs H Q E → vs.length = ps.length)
    (hbody : ∀ (A : Around) (outer : List Env) (s : Shared) (H : Hp) (vs : List V) (Q : VK) (E : XK), Room k (A.deeper (envOfC qual (defScope st) s.heap.objs.size f (.ref c))) → sp vs H Q E →
      ∃ t, PSsF (cxOf CX0 P w K mg base N qual (defScope st) f (.ref c) A outer s H E).nox (defBody st) t ∧ t (fun σ' v H' => ∀ H3, PubF N (envOfC qual (defScope st) s.heap.objs.size f (.ref c)) σ' H' H3 → Q v H3) (start N vs) H) : FnOk P w K mg base CX0 (k + 1) f fd ps sp := by
  obtain ⟨oc, od, kV, doc, pm, an, ct, osl, rfl, laid, isCode⟩ := F.ex
  refine ⟨len, fun A outer s H args us vs Q E room v0 hb r asked => ?_⟩
  have hl := len _ _ _ _ asked
  have kin : K.In s.heap := v0.mod.kin.keeps fun b o e => (v0.bs b o e).1
  have noLim : s.heap.NoLimit := v0.mod.nolimit.keeps fun b o e => (v0.bs b o e).1
  have kinds : ∀ y ∈ ps.zip us, (defScope st).names.lookup y.1 = some .local ∨ ((defScope st).names.lookup y.1 = some .cell ∧ ((cellsFrom (s.heap.objs.size + 1) (defScope st).names []).lookup y.1).isSome = true) := fun ⟨n, v⟩ hy => by
    rcases S.par n (List.of_mem_zip hy).1 with q | q
    · exact .inl q
    · exact .inr ⟨q, PySem.W.cellsFrom_some _ _ _ (.inl q)⟩
  refine codeAny_call_function room.depth (kin _ _ laid) rfl S.co S.gen rfl (PySem.W.codeRec_of kin isCode) (hb _ _ _ _ ?_)
  refine wpAny_newFunctionEnv_cells S.kind kinds fun env he s1 x => ?_
  subst he
  refine ⟨noLim.keeps x.toInCall.keep, codeAny_func ?_⟩
  obtain ⟨t, ht, hq⟩ := hbody A outer s H vs Q E (room.deeper _) asked
  have I : Inv (cxOf CX0 P w K mg base N qual (defScope st) f (.ref c) A outer s H E) [] (start N vs) H s1 := inv_start S room.hd v0 hl r x
  refine wpAny_mono (ht.nox.run [] s1 (start N vs) H _ I hq) (fun fl s' hs => ?_) fun e s' hs => hs
  obtain ⟨u, v, σ', H', rfl, J, rv, q⟩ := hs
  refine ⟨v, _, J.os, J.bare, un_pub (F := told s'.heap) J.base (no_cells J) (fun c ⟨y, e⟩ => J.ok.cab y c rfl e), hok_over J.hok (no_cells J) (told_at J), rv, q _ (pub_of J vis_of)⟩
end
/-- the call of f runs by ts -/
structure LamRun (P : Program) (w : World) (K : PySem.W.Frag) (mg : Str → Option Value) (base : Heap) (k : Nat) (f : Addr) (ts : Hp → VK → XK → Prop) : Prop where
  fn : ∀ (H : Hp) (Q : VK) (E : XK) (h : Heap), HOk P w H h → ts H Q E → PySem.W.FnAt f h
  run : ∀ (A : Around) (outer : List Env) (s : Shared) (H : Hp) (Q : VK) (E : XK), Room k A → Env0 P w K mg base A outer s H → ts H Q E → codeAny (model P w) A (.call (.ref f) ⟨[], []⟩) (CR (L2.CX P w) outer P w H s Q E) s
theorem lam_runs {P : Program} {w : World} {K : PySem.W.Frag} {mg : Str → Option Value} {base : Heap} {N : List Str} {q : Str} {params : Arguments} {body : Expr} {scope : Scope} {f c' : Addr} {tb : XK → TE} {k : Nat} (L : LamN scope)
    (hbind : ∀ (cl : List (Str × Addr)) (pm cv ctv : Value), bindArgs (PySem.W.kla_fn "<lambda>" q params body scope cl pm cv ctv) ⟨[], []⟩ = pure [])
    (hbody : ∀ (A : Around) (outer : List Env) (s : Shared) (H : Hp) (E : XK) (f c' : Addr) (cl : List (Str × Addr)), Room k (A.deeper (lenv q scope s.heap.objs.size f c' cl)) → PE (lamCxP P w K mg base N A outer s H E q scope f c' cl) body (tb E)) :
    LamRun P w K mg base (k + 1) f (tLamP f c' q params body scope N tb) :=
  ⟨fun H Q E h ok ⟨cl, σ, hf, _⟩ => by
    obtain ⟨⟨pm, ctv, e⟩, _, _⟩ := ok f _ hf
    exact ⟨_, _, _, _, e⟩, fun A outer s H Q E hr e0 h => lam_run L hr e0 hbind hbody h⟩
/-- .. of the lambda that lies at f -/
theorem lam_runs_of {H : Hp} {P : Program} {w : World} {K : PySem.W.Frag} {mg : Str → Option Value} {base : Heap} {N : List Str} {q : Str} {params : Arguments} {body : Expr} {scope : Scope} {f c' : Addr} {cl : List (Str × Addr)} {tb : XK → TE} {k : Nat} (_ : H f = some (LamO f c' q params body scope cl)) (L : LamN scope)
    (hbind : ∀ (cl : List (Str × Addr)) (pm cv ctv : Value), bindArgs (PySem.W.kla_fn "<lambda>" q params body scope cl pm cv ctv) ⟨[], []⟩ = pure [])
    (hbody : ∀ (A : Around) (outer : List Env) (s : Shared) (H : Hp) (E : XK) (f c' : Addr) (cl : List (Str × Addr)), Room k (A.deeper (lenv q scope s.heap.objs.size f c' cl)) → PE (lamCxP P w K mg base N A outer s H E q scope f c' cl) body (tb E)) :
    LamRun P w K mg base (k + 1) f (tLamP f c' q params body scope N tb) := lam_runs L hbind hbody
section
variable {P : Program} {w : World} {K : PySem.W.Frag} {mg : Str → Option Value} {base : Heap} {X : Cx} {W : WX} {k i : Nat} {x : Str} {p1 p2 : Pos}
/-- x(), x the slot i, in a def that takes what is raised -/
theorem pe_lamS (tk : Takes X W) (hr : Room k X.A) (hN : X.N[i]? = some x) (hv : Vis X.env.scope x) (hP : X.prog = P := by rfl) (hw : X.w = w := by rfl) (hK : X.K = K := by rfl) (hM : X.mg = mg := by rfl) (hB : X.base = base := by rfl) (hd : (x == ("__debug__" : Str)) = false := by decide) (hcd : (x == ("__classdict__" : Str)) = false := by decide) :
    PE X (.Call (.Name x p1) [] [] p2) (fun σ H Q => ∃ f ts, σ[i]? = some (some (.ref f)) ∧ LamRun P w K mg base k f ts ∧ ts H Q (WE W σ)) := by
  subst hP hw hK hM hB
  refine ⟨fun pins s σ H Q I h => ?_⟩
  obtain ⟨f, ts, hs, L, ht⟩ := h
  refine wpAny_Call_Name_kw (thn ((pe_var (pos := p1) (i := i) hN hv hd hcd).run pins s σ H (fun v H1 => v = .ref f ∧ H1 = H) I ⟨.ref f, hs, rfl, rfl⟩) fun u s1 ⟨v, H1, I1, r1, q1⟩ => ?_)
  obtain ⟨rfl, rfl⟩ := q1
  obtain rfl : u = Value.ref f := r1
  refine PySem.W.callWith_F0 (L.fn _ _ _ _ I1.hok ht) ?_
  refine wpAny_call (codeAny_mono (L.run X.A X.stack s1 _ Q (WE W σ) hr I1.env0 ht) fun r s' hq => ?_)
  cases r with
  | error e => exact passAt tk σ pins _ s1 e s' I1 hq
  | ok fl =>
    cases fl with
    | ret u => exact I1.after hq
    | next => exact False.elim hq
    | brk => exact False.elim hq
    | cont => exact False.elim hq
end
end St

namespace St
open PySem PySem.Spec PyProof.Rows L2 LamX
section
variable {X : Cx} {k : Nat} {f : Addr} {fd : FuncData} {a x : Str} {sp : Sp} {p pos : Pos} {e : Expr} {te : TE}
/-- x(e), this frame's cells told for the while -/
theorem pe_callPub (F : FnOk X.prog X.w X.K X.mg X.base CX0 k f fd [a] sp) (hr : Room k X.A) (hg : Gl X x) (hm : X.mg x = some (.ref f)) (hk : PySem.W.keepIn X.K (.ref f) = true) (hb : Binds X.K fd [a] []) (hfn : ∀ y, X.fn y = true) (ha : PE X e te)
    (hdb : (x == ("__debug__" : Str)) = false := by decide) (he : starEach (e :: []) X.env = (false, eval e X.env) :: starEach [] X.env := by rfl) (hpl : (backTo pos (starEach [] X.env)).any (·.1) = false := by rfl) :
    PE X (.Call (.Name x p) [e] [] pos) (fun σ H Q => tCons te tNil σ H fun vs H1 => ∀ H3, PubF X.N X.env σ H1 H3 → sp vs H3 (fun u H4 => Q u (hide X.env.cells H4)) fun _ _ _ => False) := by
  refine ⟨fun pins s σ H Q I h => ?_⟩
  refine wpAny_Call_Name_kw (ld_glob I hg hm ?_ hdb)
  refine PySem.W.callWith_K (h₀ := X.base) I.ok.mod.kin hk (thn ((pa_cons ha pa_nil he).run pos pins s σ H _ I h) fun us s1 ⟨vs, H1, I1, r, q⟩ => ⟨I1.kIn, ?_⟩) he hpl
  have cab : ∀ c, Cel X.env.cells c → X.s_0.heap.objs.size ≤ c := fun c ⟨y, e⟩ => I1.ok.cab y c (hfn y) e
  have nc := no_cells I1
  have e0 := I1.env0
  have e3 : Env0 X.prog X.w X.K X.mg X.base X.A X.stack s1 (over X.env.cells (told s1.heap) H1) := by
    refine ⟨e0.frames, e0.mod, fun b o e => ⟨(e0.bs b o e).1, ?_⟩, e0.bsz, e0.funs, fun b hb => ?_, hok_over I1.hok nc (told_at I1), e0.bare⟩
    · rw [over_out fun c => absurd (Nat.lt_of_lt_of_le (Heap.lt_size e) I1.ok.bsz) (Nat.not_lt.mpr (cab b c))]
      exact (e0.bs b o e).2
    · have out : ¬ Cel X.env.cells b := fun c => by
        rcases List.mem_cons.mp (I1.stkSub b hb) with z | z
        · obtain ⟨y, hy⟩ := c
          exact I1.cne y b hy z
        · obtain ⟨_, o, ho, _⟩ := I1.ok.funs.mem z
          exact absurd (Heap.lt_size ho) (Nat.not_lt.mpr (cab b c))
      rw [over_out out]
      exact e0.frf b hb
  have hl := F.len _ _ _ _ (q _ (pub_of I1 vis_of))
  have b := hb s1 us I1.kIn (by rw [List.append_nil, ← r.length]; exact hl)
  rw [List.append_nil] at b
  refine wpAny_call (codeAny_mono (F.run X.A X.stack s1 _ ⟨us, []⟩ us vs _ _ hr e3 b r (q _ (pub_of I1 vis_of))) fun r s' hq => ?_)
  cases r with
  | error e => exact False.elim hq
  | ok fl =>
    cases fl with
    | ret u =>
      obtain ⟨v, H4, os, bare, un, ok, rv, q4⟩ := hq
      refine I1.after ⟨v, hide X.env.cells H4, os, bare, un_hide un ok (told_at I1) nc, hok_hide2 ok (fun c hc => ?_), rv, q4⟩
      obtain ⟨o, e1, _⟩ := told_at I1 c hc
      exact ⟨o, un.frzs c o _ (by rw [over_in hc]; exact e1)⟩
    | next => exact False.elim hq
    | brk => exact False.elim hq
    | cont => exact False.elim hq
end
/-! ### what becomes of a call -/
inductive Out where
  | fine
  | ask
  | gue
  | row (i : Int)
  | set (w : Str)
def outT : Out → List V
  | .fine => [.str "", .non]
  | .ask => [.str "ask", .non]
  | .gue => [.str "guesser", .non]
  | .row i => [.str "row", .int i]
  | .set w => [.str "setting", .str w]
/-- the classes of the errors: asking, row, guesser, setting -/
structure EC where
  A : Addr
  B : Addr
  G : Addr
  S : Addr
def Fate (c : EC) (o : Out) (H : Hp) (Q : VK) (E : XK) : Prop := match o with
  | .fine => ∀ v H', Same H H' → Q v H'
  | .ask => errP c.A H E
  | .gue => errP c.G H E
  | .row i => errF c.B "number" (.int i) H E
  | .set w => errF c.S "word" (.str w) H E
theorem same_over {cl : List (Str × Addr)} {H H' : Hp} (s : Same (hide cl H) H') : Same H (over cl H H') := fun b o e => by
  by_cases c : Cel cl b
  · rw [over_in c]; exact e
  · rw [over_out c]; exact s b o (by rw [hide_out c]; exact e)
/-- told to a lambda's frame -/
theorem Fate.hide {c : EC} {o : Out} {H : Hp} {Q : VK} {E : XK} {cl : List (Str × Addr)} (f : Fate c o H Q E) : Fate c o (hide cl H) (fun v H' => NoC cl H' → Q v (over cl H H')) (fun cls d H' => NoC cl H' → E cls d (over cl H H')) := by
  have hp : ∀ {C : Addr}, errP C H E → errP C (St.hide cl H) (fun cls d H' => NoC cl H' → E cls d (over cl H H')) := fun h H' s _ => h _ (same_over s)
  have hf : ∀ {C : Addr} {x : Str} {v : V}, errF C x v H E → errF C x v (St.hide cl H) (fun cls d H' => NoC cl H' → E cls d (over cl H H')) := fun h d H' s n e nc => by
    have out : ¬ Cel cl d := fun z => by rw [nc d z] at e; cases e
    refine h d _ (same_over s) ?_ ?_
    · rw [hide_out out] at n; exact n
    · rw [over_out out]; exact e
  cases o with
  | fine => exact fun v H' s _ => f v _ (same_over s)
  | ask => exact hp f
  | gue => exact hp f
  | row i => exact hf f
  | set w => exact hf f
theorem imm_hide {cl : List (Str × Addr)} {H : Hp} (fz : ∀ c, Cel cl c → IsFz H c) : Imm H (St.hide cl H) :=
  ⟨fun b xs e => by rw [hide_out (noCel fz e tup_fz)]; exact e, fun b o u k e => by
    rw [hide_out (noCel fz e fun ob z => by unfold Fz at z; cases z; rcases k with ⟨_, k⟩ | ⟨_, k⟩ <;> cases k)]
    exact e⟩
theorem lst_hide {cl : List (Str × Addr)} {H : Hp} {l : Addr} {xs : List V} (fz : ∀ c, Cel cl c → IsFz H c) (e : H l = some (.lst xs)) : St.hide cl H l = some (.lst xs) := by
  rw [hide_out (noCel fz e fun ob z => by unfold Fz at z; cases z)]
  exact e
theorem Fate.after {c : EC} {o : Out} {H H' : Hp} {Q : VK} {E : XK} (f : Fate c o H Q E) (s : Same H H') : Fate c o H' Q E := by
  cases o with
  | fine => exact fun v H2 s2 => f v H2 (s.trans s2)
  | ask => exact errP.after f s
  | gue => exact errP.after f s
  | row i => exact errF.after f s
  | set w => exact errF.after f s
/-! ### a list is written: lambdas, code objects and tables stay -/
theorem mut_keep {H : Hp} {L b : Addr} {xs : List V} {o u : HO} (e : H L = some (.lst xs)) (h : H b = some u) (n : ∀ ys, u ≠ .lst ys) : (upd H L o) b = some u := by
  rw [upd_ne (fun z => by subst z; rw [e] at h; exact n _ (Option.some.inj h).symm)]
  exact h
theorem lamO_lst {f c' : Addr} {q : Str} {params : Arguments} {body : Expr} {scope : Scope} {cl : List (Str × Addr)} (ys : List V) : LamO f c' q params body scope cl ≠ .lst ys := fun z => by unfold LamO at z; cases z
theorem codeO_lst {c' : Addr} {q : Str} (ys : List V) : CodeO c' q ≠ .lst ys := fun z => by unfold CodeO at z; cases z
theorem tabs_mut {TT : List (Addr × Str)} {H : Hp} {L : Addr} {xs : List V} {o : HO} (T : Tabs TT H) (e : H L = some (.lst xs)) : Tabs TT (upd H L o) := fun p hp => by
  obtain ⟨ps, h1, h2, h3⟩ := T p hp
  refine ⟨ps, mut_keep e h1 (fun ys z => by cases z), h2, fun pos cv hc => ?_⟩
  obtain ⟨c, a, b⟩ := h3 pos cv hc
  exact ⟨c, a, mut_keep e b codeO_lst⟩
/-- the lambda at f runs what pre asks, in every heap behind H3 -/
def WorkAt (P : Program) (w : World) (K : PySem.W.Frag) (mg : Str → Option Value) (base : Heap) (k : Nat) (H3 : Hp) (f : Addr) (pre : Hp → VK → XK → Prop) : Prop :=
  ∃ (ts : Hp → VK → XK → Prop) (cl : List (Str × Addr)), LamRun P w K mg base k f ts ∧ (∀ b, Cel cl b → IsFz H3 b) ∧ ∀ H, Same H3 H → ∀ Q E, pre (hide cl H) (fun v H' => NoC cl H' → Q v (over cl H H')) (fun cls d H' => NoC cl H' → E cls d (over cl H H')) → ts H Q E
theorem work_at {P : Program} {w : World} {K : PySem.W.Frag} {mg : Str → Option Value} {base : Heap} {k : Nat} {H3 : Hp} {f c' : Addr} {q : Str} {params : Arguments} {body : Expr} {scope : Scope} {N : List Str} {tb : XK → TE} {cl : List (Str × Addr)} {σ : L2.St} {pre : Hp → VK → XK → Prop}
    (R : LamRun P w K mg base k f (tLamP f c' q params body scope N tb)) (ho : H3 f = some (LamO f c' q params body scope cl)) (hc : H3 c' = some (CodeO c' q)) (pc : PubC H3 N scope cl σ) (hpre : ∀ H Q E, pre H Q E → tb E σ H Q) : WorkAt P w K mg base k H3 f pre :=
  ⟨_, cl, R, pc.fz, fun H s Q E h => ⟨cl, σ, s _ _ ho, s _ _ hc, pc.ext (fun c o e => s _ _ e), hpre _ _ _ h⟩⟩
end St

namespace St
open PySem PySem.Spec PyProof.Rows L2
abbrev s_asked : Stmt := topS 33
abbrev N_asked : List Str := ["house", "shelf", "way", "place", "events", "one", "rest", "word", "other"]
abbrev p_asked : List Str := ["house", "shelf", "way", "place", "events"]
theorem sc_asked : FnScope N_asked p_asked (defScope s_asked) := ⟨rfl, rfl, rfl, by decide +kernel, rfl, by decide +kernel, by decide +kernel⟩
section
variable {P : Program} {w : World} {K : PySem.W.Frag} {mg : Str → Option Value} {base : Heap} {f f1 C : Addr} {fd fd1 : FuncData}
def spAsked (K : PySem.W.Frag) (C : Addr) : Sp := fun vs H Q _ => ∃ (h a b ev : Addr) (pl rm lt ms p : Int) (sh : Shelf) (wy : Way) (es : Evs), vs = [.ref h, .ref a, .ref b, .int p, .ref ev] ∧ IsH C H h pl rm lt ms ∧ IsSh K H a sh ∧ IsWL K H b wy ∧ b ≠ ev ∧ IsEv K H ev es ∧ 1 ≤ rm ∧ sh.length ≤ 1000 ∧ wy.length ≤ 1000 ∧ es.length ≤ 10000 ∧
  ∀ (q a' b' : Addr) H', SameX ev H H' → b' ≠ ev → (b' = b ∨ H b' = none) → SqT K H' q [.ref a', .ref b'] → IsSh K H' a' (askedP rm sh wy p).1 → IsWL K H' b' (askedP rm sh wy p).2.1 → IsEv K H' ev (es ++ (askedP rm sh wy p).2.2) → Q (.ref q) H'
theorem find_at {α : Type} {P : α → Bool} : ∀ {l : List α} {i : Nat} {e : α}, l[i]? = some e → (∀ x ∈ l.take i, P x = false) → P e = true → l.find? P = some e
  | [], _, _, h, _, _ => nomatch h
  | a :: r, 0, e, h, _, he => by
    cases Option.some.inj h
    rw [List.find?_cons, he]
  | a :: r, i + 1, e, h, hn, he => by
    have := hn a (List.mem_cons_self ..)
    rw [List.find?_cons, this]
    exact find_at (i := i) h (fun x hx => hn x (List.mem_cons_of_mem _ hx)) he
theorem lay_ib (a : Int) (b : Bool) : SeqAt.shaped (.tuple [.int a, .bool b]) = true := rfl
theorem dp_ib {K : PySem.W.Frag} {H : Hp} {p : Addr} {a : Int} {b : Bool} (h : SqT K H p [.int a, .bl b]) : Dp K H (.ref p) (.tuple [.int a, .bool b]) := .tup h (.cons (.int a) (.cons (.bl b) .nil))
theorem eqv_ib (a c : Int) (b d : Bool) : PyData.eqv (.tuple [.int a, .bool b]) (.tuple [.int c, .bool d]) = decide ((a, b) = (c, d)) := by
  simp only [PyData.eqv, PyData.eqvAll, Bool.and_true]
  by_cases x : a = c
  · subst x
    cases b <;> cases d <;> simp
  · simp [x]
theorem ok_asked (T : Nms mg) (HC : HouseC K C) (D_laid : Df K mg "laid" s_laid p_laid f1 fd1) (F : Fun K "asked" "asked" s_asked f fd) : FnOk P w K mg base CX0 2 f fd p_asked (spAsked K C) := by
  have G_laid : FnOk P w K mg base CX0 1 f1 fd1 p_laid (spLaid K C) := ok_laid T HC D_laid.F
  refine F.ok sc_asked (fun vs H Q E h => ?_) (fun cdv A outer s H vs Q E hr h => ?_)
  · obtain ⟨h, a, b, ev, pl, rm, lt, ms, p, sh, wy, es, rfl, _⟩ := h
    rfl
  obtain ⟨h, a, b, ev, pl, rm, lt, ms, p, sh, wy, es, rfl, hh, ⟨as, hs, ps⟩, hw, nbe, he, h1, hls, hlw, hle, q⟩ := h
  refine ⟨_, (pss_cons (ps_for PassesOwn.never rfl (pi_tup (pv 1)) (pg_name (i := 5) sc_asked.nd rfl (Or.inr rfl))
    (pss_one (ps_if (pt_cmpR op_eq (pe_ix ix_tup (pv 5) pe_int (fun _ _ => rfl)) (pv 3) (nomark _))
      (pss_cons (ps_expr (pe_bm PySem.F.plainAttrs_list PySem.F.slot_list_append PySem.F.type_list_append mt_append (pv 4) (pa_cons (pe_tup (pa_cons (pe_ifExp (pt_val (pe_ix ix_tup (pv 5) pe_int (fun _ _ => rfl))) pe_str pe_str) (pa_cons (pv 3) pa_nil))) pa_nil)))
      (pss_one (ps_ret (pe_tup (pa_cons (pe_op op_catA (pe_callTy call_tuple_of (by rfl) T.n_tuple (by decide +kernel) (pa_cons (pe_lc (own := [("other", 8)]) (g := gName 8) rfl sc_asked.nd (pi_tup (pv 1)) (blkOk_by (own := [("other", 8)]) (N := N_asked) (sc := defScope s_asked) (by decide +kernel)) (fun _ _ _ _ _ => pg_name (i := 8) sc_asked.nd rfl (Or.inl rfl)) (fun _ _ _ _ _ => pts_one (pt_cmpR (neD_K (K := K) hr.units) (pv 8) (pv 5) (nomark _))) (fun _ _ _ _ _ => (pv 8))) pa_nil)) (pe_tup (pa_cons (pe_tup (pa_cons (pv 3) (pa_cons pe_bl pa_nil))) pa_nil))) (pa_cons (pv 2) pa_nil))))))
      (pss_nil))))
  (pss_cons (ps_setLc (i := 6) (own := [("one", 5)]) (g := gName 5) rfl sc_asked.nd rfl rfl (sw_true rfl rfl rfl (by decide +kernel)) (pi_list (pv 2)) (blkOk_by (own := [("one", 5)]) (N := N_asked) (sc := defScope s_asked) (by decide +kernel)) (fun _ _ _ _ _ => pg_name (i := 5) sc_asked.nd rfl (Or.inl rfl)) (fun _ _ _ _ _ => pts_one (pt_cmpR op_ne (pe_ix (ix_tupK (K := K)) (pv 5) pe_int (fun _ _ => rfl)) (pv 3) (nomark _))) (fun _ _ _ _ _ => (pv 5)))
  (pss_cons (ps_set (i := 7) sc_asked.nd rfl (Or.inl rfl) (pe_ifExp (pt_cmpR op_eq (pe_callB call_len_seq (by rfl) T.n_len (by decide +kernel) (pa_cons (pv 6) pa_nil)) (pe_callB call_len_seq (by rfl) T.n_len (by decide +kernel) (pa_cons (pv 2) pa_nil)) (nomark _)) pe_str pe_str))
  (pss_cons (ps_set (i := 1) sc_asked.nd rfl (Or.inl rfl) (pe_call G_laid (hr.mono (by first | decide | omega)) (by rfl) D_laid.m D_laid.F.kp D_laid.b .nil pass0 (pa_cons (pv 0) (pa_cons (pv 1) (pa_cons (pv 3) (pa_cons pe_bl (pa_cons (pv 4) pa_nil)))))))
  (pss_cons (ps_expr (pe_bm PySem.F.plainAttrs_list PySem.F.slot_list_append PySem.F.type_list_append mt_append (pv 4) (pa_cons (pe_tup (pa_cons (pv 7) (pa_cons (pv 3) pa_nil))) pa_nil)))
  (pss_one (ps_ret (pe_tup (pa_cons (pv 1) (pa_cons (pv 6) pa_nil)))))))))), ?_⟩
  and_intros
  refine ⟨⟨_, hs⟩, ?_⟩
  refine for_tup (xs := as.map V.ref) (fun i σ H' => ∃ y5, σ = [some (.ref h), some (.ref a), some (.ref b), some (.int p), some (.ref ev), y5, none, none, none] ∧ H = H' ∧ ∀ x ∈ sh.take i, decide (x.1 = p) = false)
    ⟨none, rfl, rfl, fun _ h => (nomatch h)⟩ (fun i σ H' _ h => ?_) (fun i x σ H' hi h => ?_) (fun σ H' h => ?_)
  · obtain ⟨y5, rfl, rfl, _⟩ := h
    exact hs
  · obtain ⟨y5, rfl, rfl, hn⟩ := h
    obtain ⟨u, e, rfl, hu, tk, eg⟩ := pr_at ps hi
    obtain ⟨e1, e2⟩ := e
    have hu : SqT K H u [.int e1, .bl e2] := hu
    and_intros
    by_cases c : e1 = p
    · refine iteB (decide_eq_true (congrArg V.int c)) ?_
      subst c
      obtain ⟨fs, q1, q2⟩ := he
      have les : fs.length = es.length := Paired.length q2
      have ef : sh.find? (fun e => decide (e.1 = e1)) = some (e1, e2) := find_at eg hn (decide_eq_true rfl)
      and_intros
      refine ⟨.inl ⟨rfl, _, sql q1⟩, ?_⟩
      and_intros
      cases e2 with
      | true =>
        refine iteB rfl ?_
        have ea : askedP rm sh wy e1 = (sh.filter (fun o => decide (o ≠ (e1, true))) ++ [(e1, false)], wy, [(("first" : Str), e1)]) := by unfold askedP; rw [ef]; rfl
        rw [ea] at q
        and_intros
        intro p1 n1
        and_intros
        have q1' := same_upd (o := .tup [.str "first", .int e1]) n1 _ _ q1
        have im1 : Imm H (upd H p1 (.tup [.str "first", .int e1])) := Imm.same (same_upd n1)
        refine ⟨_, _, _, rfl, rfl, q1', by rw [List.length_map, les]; exact szl (by omega), ?_⟩
        have im2 := im1.trans (Imm.upd (o := .lst (fs.map V.ref ++ [.ref p1])) ⟨_, q1'⟩)
        have hs2 := im2.t hs
        have ps2 := ps.imm im2
        have sX : SameX ev H (upd (upd H p1 (.tup [.str "first", .int e1])) ev (.lst (fs.map V.ref ++ [.ref p1]))) := (SameX.of (same_upd n1)).trans SameX.upd
        have hw2 := hw.x nbe sX ⟨_, q1⟩
        have he2 : IsEv K (upd (upd H p1 (.tup [.str "first", .int e1])) ev (.lst (fs.map V.ref ++ [.ref p1]))) ev (es ++ [(("first" : Str), e1)]) := IsEv.put q1' (q2.imm im1) (sqt upd_same)
        generalize upd (upd H p1 (.tup [.str "first", .int e1])) ev (.lst (fs.map V.ref ++ [.ref p1])) = H2 at hs2 ps2 sX hw2 he2 im2 ⊢
        and_intros
        refine ⟨⟨_, hs2⟩, fun D nD => ?_⟩
        refine lc_tup (xs := as.map V.ref) (fun i H' => Same H2 H' ∧ ∃ cs : List Addr, H' D = some (.lst (cs.map V.ref)) ∧ PrS K H' cs ((sh.take i).filter (fun o => decide (o ≠ (e1, true))))) ⟨same_upd nD, [], upd_same, .nil⟩ (fun i H' _ h => same_t h.1 hs2) (fun i y H' hi h => ?_) (fun H' h => ?_)
        · obtain ⟨s3, cs, eD, pc⟩ := h
          obtain ⟨u2, o, rfl, hu2, tk2, eg2⟩ := pr_at (ps2.imm (Imm.same s3)) hi
          obtain ⟨o1, o2⟩ := o
          have hu' : SqT K H' u [.int e1, .bl true] := (im2.trans (Imm.same s3)).t hu
          and_intros
          refine ⟨.tuple [.int o1, .bool o2], .tuple [.int e1, .bool true], dp_ib hu2, dp_ib hu', lay_ib _ _, lay_ib _ _, ?_⟩
          rw [eqv_ib, tk2, filter_snoc]
          by_cases co : (o1, o2) = (e1, true)
          · rw [decide_eq_true co]
            refine ⟨_, rfl, iteB0 (b := !true) rfl ?_⟩
            rw [if_neg (by simp [co]), List.append_nil]
            exact ⟨s3, cs, eD, pc⟩
          · rw [decide_eq_false co]
            refine ⟨_, rfl, iteB (b := !false) rfl ?_⟩
            have lc : cs.length ≤ sh.length := by
              rw [Paired.length pc]
              refine Nat.le_trans (List.length_filter_le _ _) ?_
              rw [List.length_take]
              exact Nat.min_le_right _ _
            refine ⟨_, rfl, _, eD, by rw [List.length_map]; exact szl (by omega), same_mut s3 nD, cs ++ [u2], by rw [upd_same, List.map_append]; rfl, ?_⟩
            rw [if_pos (by simp [co])]
            exact Paired.snoc (pc.imm (Imm.upd ⟨_, eD⟩)) ((Imm.upd ⟨_, eD⟩).t hu2)
        · obtain ⟨s3, cs, eD, pc⟩ := h
          rw [show sh.take (as.map V.ref).length = sh by rw [List.length_map, Paired.length ps]; exact List.take_length] at pc
          have lc : cs.length ≤ sh.length := by
            rw [Paired.length pc]
            exact List.length_filter_le _ _
          refine ⟨_, _, rfl, .inl ⟨sql eD, fun t nt => ?_⟩⟩
          and_intros
          intro p4 n4
          and_intros
          intro p5 n5
          refine catA_ok (same_t (same_upd n5) (same_t (same_upd n4) (sqt upd_same))) (sqt upd_same) (by rw [List.length_map]; exact sz (by show cs.length + 1 ≤ _; omega)) fun p6 H6 s6 h6 => ?_
          and_intros
          intro p7 n7
          have sE : Same H2 H6 := (s3.trans ((same_upd nt).trans ((same_upd n4).trans (same_upd n5)))).trans s6
          have sE' : Same H' H6 := ((same_upd nt).trans ((same_upd n4).trans (same_upd n5))).trans s6
          have h4 : SqT K H6 p4 [.int e1, .bl false] := sqt (s6 _ _ (same_upd n5 _ _ upd_same))
          exact q p7 p6 b _ (sX.trans (SameX.of (sE.trans (same_upd n7)))) nbe (.inl rfl) (sqt upd_same) (IsSh.imm ⟨cs ++ [p4], by rw [List.map_append]; exact h6, Paired.snoc (pc.imm (Imm.same sE')) h4⟩ (Imm.same (same_upd n7))) (hw2.same (sE.trans (same_upd n7))) (he2.same (sE.trans (same_upd n7)))
      | false =>
        refine iteB0 rfl ?_
        have ea : askedP rm sh wy e1 = (sh.filter (fun o => decide (o ≠ (e1, false))) ++ [(e1, false)], wy, [(("hit" : Str), e1)]) := by unfold askedP; rw [ef]; rfl
        rw [ea] at q
        and_intros
        intro p1 n1
        and_intros
        have q1' := same_upd (o := .tup [.str "hit", .int e1]) n1 _ _ q1
        have im1 : Imm H (upd H p1 (.tup [.str "hit", .int e1])) := Imm.same (same_upd n1)
        refine ⟨_, _, _, rfl, rfl, q1', by rw [List.length_map, les]; exact szl (by omega), ?_⟩
        have im2 := im1.trans (Imm.upd (o := .lst (fs.map V.ref ++ [.ref p1])) ⟨_, q1'⟩)
        have hs2 := im2.t hs
        have ps2 := ps.imm im2
        have sX : SameX ev H (upd (upd H p1 (.tup [.str "hit", .int e1])) ev (.lst (fs.map V.ref ++ [.ref p1]))) := (SameX.of (same_upd n1)).trans SameX.upd
        have hw2 := hw.x nbe sX ⟨_, q1⟩
        have he2 : IsEv K (upd (upd H p1 (.tup [.str "hit", .int e1])) ev (.lst (fs.map V.ref ++ [.ref p1]))) ev (es ++ [(("hit" : Str), e1)]) := IsEv.put q1' (q2.imm im1) (sqt upd_same)
        generalize upd (upd H p1 (.tup [.str "hit", .int e1])) ev (.lst (fs.map V.ref ++ [.ref p1])) = H2 at hs2 ps2 sX hw2 he2 im2 ⊢
        and_intros
        refine ⟨⟨_, hs2⟩, fun D nD => ?_⟩
        refine lc_tup (xs := as.map V.ref) (fun i H' => Same H2 H' ∧ ∃ cs : List Addr, H' D = some (.lst (cs.map V.ref)) ∧ PrS K H' cs ((sh.take i).filter (fun o => decide (o ≠ (e1, false))))) ⟨same_upd nD, [], upd_same, .nil⟩ (fun i H' _ h => same_t h.1 hs2) (fun i y H' hi h => ?_) (fun H' h => ?_)
        · obtain ⟨s3, cs, eD, pc⟩ := h
          obtain ⟨u2, o, rfl, hu2, tk2, eg2⟩ := pr_at (ps2.imm (Imm.same s3)) hi
          obtain ⟨o1, o2⟩ := o
          have hu' : SqT K H' u [.int e1, .bl false] := (im2.trans (Imm.same s3)).t hu
          and_intros
          refine ⟨.tuple [.int o1, .bool o2], .tuple [.int e1, .bool false], dp_ib hu2, dp_ib hu', lay_ib _ _, lay_ib _ _, ?_⟩
          rw [eqv_ib, tk2, filter_snoc]
          by_cases co : (o1, o2) = (e1, false)
          · rw [decide_eq_true co]
            refine ⟨_, rfl, iteB0 (b := !true) rfl ?_⟩
            rw [if_neg (by simp [co]), List.append_nil]
            exact ⟨s3, cs, eD, pc⟩
          · rw [decide_eq_false co]
            refine ⟨_, rfl, iteB (b := !false) rfl ?_⟩
            have lc : cs.length ≤ sh.length := by
              rw [Paired.length pc]
              refine Nat.le_trans (List.length_filter_le _ _) ?_
              rw [List.length_take]
              exact Nat.min_le_right _ _
            refine ⟨_, rfl, _, eD, by rw [List.length_map]; exact szl (by omega), same_mut s3 nD, cs ++ [u2], by rw [upd_same, List.map_append]; rfl, ?_⟩
            rw [if_pos (by simp [co])]
            exact Paired.snoc (pc.imm (Imm.upd ⟨_, eD⟩)) ((Imm.upd ⟨_, eD⟩).t hu2)
        · obtain ⟨s3, cs, eD, pc⟩ := h
          rw [show sh.take (as.map V.ref).length = sh by rw [List.length_map, Paired.length ps]; exact List.take_length] at pc
          have lc : cs.length ≤ sh.length := by
            rw [Paired.length pc]
            exact List.length_filter_le _ _
          refine ⟨_, _, rfl, .inl ⟨sql eD, fun t nt => ?_⟩⟩
          and_intros
          intro p4 n4
          and_intros
          intro p5 n5
          refine catA_ok (same_t (same_upd n5) (same_t (same_upd n4) (sqt upd_same))) (sqt upd_same) (by rw [List.length_map]; exact sz (by show cs.length + 1 ≤ _; omega)) fun p6 H6 s6 h6 => ?_
          and_intros
          intro p7 n7
          have sE : Same H2 H6 := (s3.trans ((same_upd nt).trans ((same_upd n4).trans (same_upd n5)))).trans s6
          have sE' : Same H' H6 := ((same_upd nt).trans ((same_upd n4).trans (same_upd n5))).trans s6
          have h4 : SqT K H6 p4 [.int e1, .bl false] := sqt (s6 _ _ (same_upd n5 _ _ upd_same))
          exact q p7 p6 b _ (sX.trans (SameX.of (sE.trans (same_upd n7)))) nbe (.inl rfl) (sqt upd_same) (IsSh.imm ⟨cs ++ [p4], by rw [List.map_append]; exact h6, Paired.snoc (pc.imm (Imm.same sE')) h4⟩ (Imm.same (same_upd n7))) (hw2.same (sE.trans (same_upd n7))) (he2.same (sE.trans (same_upd n7)))
    · refine iteB0 (decide_eq_false fun z => c (V.int.inj z)) ?_
      refine ⟨_, rfl, rfl, fun x hx => ?_⟩
      rw [tk] at hx
      rcases List.mem_append.mp hx with hx | hx
      · exact hn x hx
      · rw [List.mem_singleton.mp hx]
        exact decide_eq_false c
  · obtain ⟨y5, rfl, rfl, hn⟩ := h
    rw [show sh.take (as.map V.ref).length = sh by rw [List.length_map, Paired.length ps]; exact List.take_length] at hn
    have ef : sh.find? (fun e => decide (e.1 = p)) = none := List.find?_eq_none.mpr fun x hx => by rw [hn x hx]; exact Bool.false_ne_true
    have ea : askedP rm sh wy p = ((laidP rm sh p false).1, wy.filter (fun e => decide (e.1 ≠ p)), (laidP rm sh p false).2 ++ [((if (wy.filter fun e => decide (e.1 ≠ p)).length = wy.length then "miss" else "late" : Str), p)]) := by unfold askedP; rw [ef]
    rw [ea] at q
    obtain ⟨ws, w1, w2⟩ := hw
    have lws : ws.length = wy.length := Paired.length w2
    and_intros
    refine ⟨⟨_, sql w1⟩, fun D nD => ?_⟩
    have nDe : D ≠ ev := (ne_of_none he.at_.choose_spec nD).symm
    refine lc_list (xs := ws.map V.ref) (fun i H' => Same H H' ∧ ∃ cs : List Addr, H' D = some (.lst (cs.map V.ref)) ∧ PrW K H' cs ((wy.take i).filter (fun e => decide (e.1 ≠ p)))) ⟨same_upd nD, [], upd_same, .nil⟩ (fun i H' _ h => sql (h.1 _ _ w1)) (fun i y H' hi h => ?_) (fun H' h => ?_)
    · obtain ⟨s3, cs, eD, pc⟩ := h
      obtain ⟨u2, o, rfl, hu2, tk2, eg2⟩ := pr_at (w2.imm (Imm.same s3)) hi
      obtain ⟨o1, o2⟩ := o
      have hu2 : SqT K H' u2 [.int o1, .int o2] := hu2
      and_intros
      rw [tk2, filter_snoc]
      by_cases co : o1 = p
      · refine iteB0 (by rw [decide_eq_true (congrArg V.int co)]; rfl) ?_
        rw [if_neg (by simp [co]), List.append_nil]
        exact ⟨s3, cs, eD, pc⟩
      · refine iteB (by rw [decide_eq_false fun z => co (V.int.inj z)]; rfl) ?_
        have lc : cs.length ≤ wy.length := by
          rw [Paired.length pc]
          refine Nat.le_trans (List.length_filter_le _ _) ?_
          rw [List.length_take]
          exact Nat.min_le_right _ _
        refine ⟨_, rfl, _, eD, by rw [List.length_map]; exact szl (by omega), same_mut s3 nD, cs ++ [u2], by rw [upd_same, List.map_append]; rfl, ?_⟩
        rw [if_pos (by simp [co])]
        exact Paired.snoc (pc.imm (Imm.upd ⟨_, eD⟩)) ((Imm.upd ⟨_, eD⟩).t hu2)
    · obtain ⟨s3, cs, eD, pc⟩ := h
      rw [show wy.take (ws.map V.ref).length = wy by rw [List.length_map, lws]; exact List.take_length] at pc
      have lcs : cs.length = (wy.filter (fun e => decide (e.1 ≠ p))).length := Paired.length pc
      have w1' := s3 _ _ w1
      have hR : IsWL K H' D (wy.filter (fun e => decide (e.1 ≠ p))) := ⟨cs, eD, pc⟩
      have hs' := same_t s3 hs
      have ps' := ps.imm (Imm.same s3)
      have he' := he.same s3
      have hh' := hh.same s3
      generalize wy.filter (fun e => decide (e.1 ≠ p)) = rest at lcs hR q
      and_intros
      have lcm : (V.int ((cs.map V.ref).length : Nat) = V.int ((ws.map V.ref).length : Nat)) ↔ rest.length = wy.length := by
        rw [List.length_map, List.length_map, lcs, lws]
        exact ⟨fun z => Int.ofNat.inj (V.int.inj z), fun z => by rw [z]⟩
      by_cases cm : rest.length = wy.length
      · refine iteB (decide_eq_true (lcm.mpr cm)) ?_
        rw [if_pos cm] at q
        and_intros
        refine ⟨h, a, ev, pl, rm, lt, ms, p, false, sh, es, rfl, hh', ⟨as, hs', ps'⟩, he', h1, hls, by omega, fun a2 H2 s2 j1 j3 => ?_⟩
        have j2 := hR.x nDe s2 he'.at_
        have ll := laidP_len (room := rm) (sh := sh) (p := p) (w := false)
        and_intros
        obtain ⟨gs, q1, q2⟩ := j3
        refine ⟨.inl ⟨rfl, _, sql q1⟩, ?_⟩
        and_intros
        intro p1 n1
        have q1' := same_upd (o := .tup [.str "miss", .int p]) n1 _ _ q1
        have im1 : Imm H2 (upd H2 p1 (.tup [.str "miss", .int p])) := Imm.same (same_upd n1)
        have les : gs.length = (es ++ (laidP rm sh p false).2).length := Paired.length q2
        rw [List.length_append] at les
        and_intros
        refine ⟨_, _, _, rfl, rfl, q1', by rw [List.length_map]; exact szl (by omega), ?_⟩
        have sX : SameX ev H (upd (upd H2 p1 (.tup [.str "miss", .int p])) ev (.lst (gs.map V.ref ++ [.ref p1]))) := (((SameX.of s3).trans s2).trans (SameX.of (same_upd n1))).trans SameX.upd
        have k1 := (j1.imm im1).imm (Imm.upd (o := .lst (gs.map V.ref ++ [.ref p1])) ⟨_, q1'⟩)
        have k2 := (j2.same (same_upd (o := .tup [.str "miss", .int p]) n1)).x nDe (SameX.upd (o := .lst (gs.map V.ref ++ [.ref p1]))) ⟨_, q1'⟩
        have k3 : IsEv K (upd (upd H2 p1 (.tup [.str "miss", .int p])) ev (.lst (gs.map V.ref ++ [.ref p1]))) ev (es ++ (laidP rm sh p false).2 ++ [(("miss" : Str), p)]) := IsEv.put q1' (q2.imm im1) (sqt upd_same)
        generalize upd (upd H2 p1 (.tup [.str "miss", .int p])) ev (.lst (gs.map V.ref ++ [.ref p1])) = H3 at sX k1 k2 k3 ⊢
        and_intros
        intro p2 n2
        rw [List.append_assoc] at k3
        exact q p2 a2 D _ (sX.trans (SameX.of (same_upd n2))) nDe (.inr nD) (sqt upd_same) (k1.imm (Imm.same (same_upd n2))) (k2.same (same_upd n2)) (k3.same (same_upd n2))
      · refine iteB0 (decide_eq_false fun z => cm (lcm.mp z)) ?_
        rw [if_neg cm] at q
        and_intros
        refine ⟨h, a, ev, pl, rm, lt, ms, p, false, sh, es, rfl, hh', ⟨as, hs', ps'⟩, he', h1, hls, by omega, fun a2 H2 s2 j1 j3 => ?_⟩
        have j2 := hR.x nDe s2 he'.at_
        have ll := laidP_len (room := rm) (sh := sh) (p := p) (w := false)
        and_intros
        obtain ⟨gs, q1, q2⟩ := j3
        refine ⟨.inl ⟨rfl, _, sql q1⟩, ?_⟩
        and_intros
        intro p1 n1
        have q1' := same_upd (o := .tup [.str "late", .int p]) n1 _ _ q1
        have im1 : Imm H2 (upd H2 p1 (.tup [.str "late", .int p])) := Imm.same (same_upd n1)
        have les : gs.length = (es ++ (laidP rm sh p false).2).length := Paired.length q2
        rw [List.length_append] at les
        and_intros
        refine ⟨_, _, _, rfl, rfl, q1', by rw [List.length_map]; exact szl (by omega), ?_⟩
        have sX : SameX ev H (upd (upd H2 p1 (.tup [.str "late", .int p])) ev (.lst (gs.map V.ref ++ [.ref p1]))) := (((SameX.of s3).trans s2).trans (SameX.of (same_upd n1))).trans SameX.upd
        have k1 := (j1.imm im1).imm (Imm.upd (o := .lst (gs.map V.ref ++ [.ref p1])) ⟨_, q1'⟩)
        have k2 := (j2.same (same_upd (o := .tup [.str "late", .int p]) n1)).x nDe (SameX.upd (o := .lst (gs.map V.ref ++ [.ref p1]))) ⟨_, q1'⟩
        have k3 : IsEv K (upd (upd H2 p1 (.tup [.str "late", .int p])) ev (.lst (gs.map V.ref ++ [.ref p1]))) ev (es ++ (laidP rm sh p false).2 ++ [(("late" : Str), p)]) := IsEv.put q1' (q2.imm im1) (sqt upd_same)
        generalize upd (upd H2 p1 (.tup [.str "late", .int p])) ev (.lst (gs.map V.ref ++ [.ref p1])) = H3 at sX k1 k2 k3 ⊢
        and_intros
        intro p2 n2
        rw [List.append_assoc] at k3
        exact q p2 a2 D _ (sX.trans (SameX.of (same_upd n2))) nDe (.inr nD) (sqt upd_same) (k1.imm (Imm.same (same_upd n2))) (k2.same (same_upd n2)) (k3.same (same_upd n2))
end
end St

namespace St
open PySem PySem.Spec PyProof.Rows L2
abbrev s_started : Stmt := topS 34
abbrev N_started : List Str := ["house", "shelf", "way", "guessed", "events", "found", "place", "there", "one"]
abbrev p_started : List Str := ["house", "shelf", "way", "guessed", "events"]
theorem sc_started : FnScope N_started p_started (defScope s_started) := ⟨rfl, rfl, rfl, by decide +kernel, rfl, by decide +kernel, by decide +kernel⟩
section
variable {P : Program} {w : World} {K : PySem.W.Frag} {mg : Str → Option Value} {base : Heap} {f C : Addr} {fd : FuncData}
def spStarted (K : PySem.W.Frag) (C : Addr) : Sp := fun vs H Q _ => ∃ (h a b g ev : Addr) (pl rm lt ms : Int) (sh : Shelf) (wy : Way) (gs : List Int) (es : Evs), vs = [.ref h, .ref a, .ref b, .ref g, .ref ev] ∧ IsH C H h pl rm lt ms ∧ IsSh K H a sh ∧ IsWL K H b wy ∧ g ≠ ev ∧ H g = some (.lst (gs.map V.int)) ∧ IsEv K H ev es ∧ sh.length ≤ 1000 ∧ wy.length ≤ 1000 ∧ gs.length ≤ 1000 ∧ es.length ≤ 10000 ∧
  ∀ (b' : Addr) H', SameX ev H H' → H b' = none → b' ≠ ev → IsWL K H' b' (startedP pl lt ms sh wy gs).1 → IsEv K H' ev (es ++ (startedP pl lt ms sh wy gs).2) → Q (.ref b') H'
theorem startedP_len (pl lt ms : Int) (sh : Shelf) (wy : Way) : ∀ (gs : List Int) (i : Nat), ((gs.take i).foldl (startS pl lt ms sh) (wy, [])).1.length ≤ wy.length + i ∧ ((gs.take i).foldl (startS pl lt ms sh) (wy, [])).2.length ≤ i
  | gs, 0 => by rw [List.take_zero]; exact ⟨Nat.le_refl _, Nat.le_refl _⟩
  | gs, i + 1 => by
    have ih := startedP_len pl lt ms sh wy gs i
    rw [List.take_add_one, List.foldl_append]
    generalize (gs.take i).foldl (startS pl lt ms sh) (wy, []) = s at ih
    cases e : gs[i]? with
    | none => exact ⟨Nat.le_succ_of_le ih.1, Nat.le_succ_of_le ih.2⟩
    | some x =>
      show (startS pl lt ms sh s x).1.length ≤ _ ∧ (startS pl lt ms sh s x).2.length ≤ _
      unfold startS
      split
      · refine ⟨?_, ?_⟩
        · show (s.1 ++ [_]).length ≤ _
          rw [List.length_append]
          exact Nat.succ_le_succ ih.1
        · show (s.2 ++ [_]).length ≤ _
          rw [List.length_append]
          exact Nat.succ_le_succ ih.2
      · exact ⟨Nat.le_succ_of_le ih.1, Nat.le_succ_of_le ih.2⟩
theorem ok_started (T : Nms mg) (HC : HouseC K C) (F : Fun K "started" "started" s_started f fd) : FnOk P w K mg base CX0 1 f fd p_started (spStarted K C) := by
  refine F.ok sc_started (fun vs H Q E h => ?_) (fun cdv A outer s H vs Q E hr h => ?_)
  · obtain ⟨h, a, b, g, ev, pl, rm, lt, ms, sh, wy, gs, es, rfl, _⟩ := h
    rfl
  obtain ⟨h, a, b, g, ev, pl, rm, lt, ms, sh, wy, gs, es, rfl, hh, hs, hw, nge, hg, he, hls, hlw, hlg, hle, q⟩ := h
  refine ⟨_, (pss_cons (ps_set (i := 5) sc_started.nd rfl (Or.inl rfl) (pe_callTy call_list_of (by rfl) T.n_list (by decide +kernel) (pa_cons (pv 2) pa_nil)))
  (pss_cons (ps_for PassesOwn.never rfl (pi_list (pv 3)) (pg_name (i := 6) sc_started.nd rfl (Or.inl rfl))
    (pss_cons (ps_set (i := 7) sc_started.nd rfl (Or.inl rfl) (pe_op op_cat (pe_lc (own := [("one", 8)]) (g := gName 8) rfl sc_started.nd (pi_tup (pv 1)) (blkOk_by (own := [("one", 8)]) (N := N_started) (sc := defScope s_started) (by decide +kernel)) (fun _ _ _ _ _ => pg_name (i := 8) sc_started.nd rfl (Or.inl rfl)) (fun _ _ _ _ _ => pts_nil) (fun _ _ _ _ _ => (pe_ix (ix_tupK (K := K)) (pv 8) pe_int (fun _ _ => rfl)))) (pe_lc (own := [("one", 8)]) (g := gName 8) rfl sc_started.nd (pi_list (pv 5)) (blkOk_by (own := [("one", 8)]) (N := N_started) (sc := defScope s_started) (by decide +kernel)) (fun _ _ _ _ _ => pg_name (i := 8) sc_started.nd rfl (Or.inl rfl)) (fun _ _ _ _ _ => pts_nil) (fun _ _ _ _ _ => (pe_ix (ix_tupK (K := K)) (pv 8) pe_int (fun _ _ => rfl))))))
    (pss_one (ps_if (PW.pt (pw_and (pt_chain op_le op_lt pe_int (pv 6) (pe_fld (pv 0) rfl)) (pw_and (pt_cmpR op_notIn_seq (pv 6) (pv 7) (by with_unfolding_all rfl)) (pw_and1 (pt_cmpR op_lt (pe_callB call_len_seq (by rfl) T.n_len (by decide +kernel) (pa_cons (pv 5) pa_nil)) (pe_fld (pv 0) rfl) (nomark _))))))
      (pss_cons (ps_expr (pe_bm PySem.F.plainAttrs_list PySem.F.slot_list_append PySem.F.type_list_append mt_append (pv 5) (pa_cons (pe_tup (pa_cons (pv 6) (pa_cons (pe_fld (pv 0) rfl) pa_nil))) pa_nil)))
      (pss_one (ps_expr (pe_bm PySem.F.plainAttrs_list PySem.F.slot_list_append PySem.F.type_list_append mt_append (pv 4) (pa_cons (pe_tup (pa_cons pe_str (pa_cons (pv 6) pa_nil))) pa_nil)))))
      (pss_nil)))))
  (pss_one (ps_ret (pv 5))))), ?_⟩
  obtain ⟨ws, w1, w2⟩ := id hw
  refine ⟨_, rfl, _, _, rfl, .inl (sql w1), fun D nD => ?_⟩
  have nDe : D ≠ ev := (ne_of_none he.at_.choose_spec nD).symm
  and_intros
  refine ⟨⟨_, sql (same_upd nD _ _ hg)⟩, ?_⟩
  refine for_list (xs := gs.map V.int) (fun i σ H' => ∃ y6 y7, σ = [some (.ref h), some (.ref a), some (.ref b), some (.ref g), some (.ref ev), some (.ref D), y6, y7, none] ∧ SameX ev H H' ∧ IsWL K H' D ((gs.take i).foldl (startS pl lt ms sh) (wy, [])).1 ∧ IsEv K H' ev (es ++ ((gs.take i).foldl (startS pl lt ms sh) (wy, [])).2))
    ⟨none, none, rfl, SameX.of (same_upd nD), ⟨ws, upd_same, w2.imm (Imm.same (same_upd nD))⟩, by rw [List.take_zero]; show IsEv K _ ev (es ++ []); rw [List.append_nil]; exact he.same (same_upd nD)⟩ (fun i σ H' _ h => ?_) (fun i x σ H' hi h => ?_) (fun σ H' h => ?_)
  · obtain ⟨y6, y7, rfl, sX, _⟩ := h
    exact sql (sX _ _ nge hg)
  · obtain ⟨y6, y7, rfl, sX, i1, i2⟩ := h
    obtain ⟨p, rfl, eg, tk⟩ := at_ints hi
    have efold : (gs.take (i + 1)).foldl (startS pl lt ms sh) (wy, []) = startS pl lt ms sh ((gs.take i).foldl (startS pl lt ms sh) (wy, [])) p := by rw [tk, List.foldl_append]; rfl
    rw [efold]
    have ll := startedP_len pl lt ms sh wy gs i
    generalize (gs.take i).foldl (startS pl lt ms sh) (wy, []) = st at i1 i2 ll efold
    have hi' : i < gs.length := (List.getElem?_eq_some_iff.mp eg).1
    obtain ⟨as, hs1, hs2⟩ := hs.imm (Imm.sameX sX he.at_)
    obtain ⟨dx, hh'⟩ := hh.x sX he.at_
    obtain ⟨ds, d1, d2⟩ := id i1
    obtain ⟨fs, e1, e2⟩ := id i2
    have las : as.length = sh.length := Paired.length hs2
    have lds : ds.length = st.1.length := Paired.length d2
    have lfs : fs.length = (es ++ st.2).length := Paired.length e2
    rw [List.length_append] at lfs
    and_intros
    refine ⟨⟨_, hs1⟩, fun L nL => ?_⟩
    refine lc_tup (xs := as.map V.ref) (fun i H2 => Same H' H2 ∧ H2 L = some (.lst (((sh.map (·.1)).take i).map V.int))) ⟨same_upd nL, upd_same⟩ (fun i H2 _ h => same_t h.1 hs1) (fun i y H2 hi h => ?_) (fun H2 h => ?_)
    · obtain ⟨u, o, rfl, hu, tk2, eg2⟩ := pr_at (hs2.imm (Imm.same h.1)) hi
      have hi2 := (List.getElem?_eq_some_iff.mp eg2).1
      and_intros
      refine ⟨_, h.2, by rw [List.length_map, List.length_take, List.length_map]; exact szl (by omega), same_mut h.1 nL, ?_⟩
      rw [upd_same, ← List.map_take, ← List.map_take, tk2, List.map_append, List.map_append]
      rfl
    · have hL : H2 L = some (.lst ((sh.map (·.1)).map V.int)) := by
        have z := h.2
        rw [show (sh.map (·.1)).take (as.map V.ref).length = sh.map (·.1) by rw [List.length_map, las]; exact List.take_of_length_le (by rw [List.length_map]; exact Nat.le_refl _)] at z
        exact z
      have d1' := h.1 _ _ d1
      have hs' : Same H' H2 := h.1
      clear h
      and_intros
      refine ⟨⟨_, sql d1'⟩, fun M nM => ?_⟩
      refine lc_list (xs := ds.map V.ref) (fun i H3 => Same H2 H3 ∧ H3 M = some (.lst (((st.1.map (·.1)).take i).map V.int))) ⟨same_upd nM, upd_same⟩ (fun i H3 _ h => sql (h.1 _ _ d1')) (fun i y H3 hi h => ?_) (fun H3 h3 => ?_)
      · obtain ⟨u, o, rfl, hu, tk2, eg2⟩ := pr_at (d2.imm (Imm.same (hs'.trans h.1))) hi
        have hi2 := (List.getElem?_eq_some_iff.mp eg2).1
        and_intros
        refine ⟨_, h.2, by rw [List.length_map, List.length_take, List.length_map]; exact szl (by omega), same_mut h.1 nM, ?_⟩
        rw [upd_same, ← List.map_take, ← List.map_take, tk2, List.map_append, List.map_append]
        rfl
      · have hM : H3 M = some (.lst ((st.1.map (·.1)).map V.int)) := by
          have z := h3.2
          rw [show (st.1.map (·.1)).take (ds.map V.ref).length = st.1.map (·.1) by rw [List.length_map, lds]; exact List.take_of_length_le (by rw [List.length_map]; exact Nat.le_refl _)] at z
          exact z
        refine ⟨_, _, _, _, rfl, rfl, h3.1 _ _ hL, hM, by simp only [List.length_map]; exact sz (by omega), fun N nN => ?_⟩
        rw [← List.map_append]
        have s4 : Same H' (upd H3 N (.lst ((sh.map (·.1) ++ st.1.map (·.1)).map V.int))) := (hs'.trans h3.1).trans (same_upd nN)
        have hN : (upd H3 N (.lst ((sh.map (·.1) ++ st.1.map (·.1)).map V.int))) N = some (.lst ((sh.map (·.1) ++ st.1.map (·.1)).map V.int)) := upd_same
        generalize upd H3 N (.lst ((sh.map (·.1) ++ st.1.map (·.1)).map V.int)) = H4 at s4 hN ⊢
        have hh4 := s4 _ _ hh'
        have i1' := i1.same s4
        have i2' := i2.same s4
        have sX4 := sX.trans (SameX.of s4)
        and_intros
        have out : ¬ ((0 ≤ p ∧ p < pl) ∧ p ∉ sh.map (·.1) ++ st.1.map (·.1) ∧ ((st.1.length : Nat) : Int) < ms) → IsWL K H4 D (startS pl lt ms sh st p).1 ∧ IsEv K H4 ev (es ++ (startS pl lt ms sh st p).2) := fun z => by
          rw [show startS pl lt ms sh st p = st from if_neg z]
          exact ⟨i1', i2'⟩
        by_cases c1 : 0 ≤ p
        · refine iteB (decide_eq_true c1) ?_
          refine ⟨_, rfl, h, C, dx, _, _, rfl, hh4, HC.cl, HC.places, hfl_places _ _ _ _, ?_⟩
          and_intros
          by_cases c2 : p < pl
          · refine iteB (decide_eq_true c2) ?_
            and_intros
            refine ⟨flat_ints _, ?_⟩
            rw [inV_ints]
            by_cases c3 : p ∈ sh.map (·.1) ++ st.1.map (·.1)
            · rw [decide_eq_true c3]
              refine ⟨_, rfl, iteB0 (b := !true) rfl ?_⟩
              refine iteB0 rfl ?_
              exact ⟨_, _, rfl, sX4, out fun z => z.2.1 c3⟩
            · rw [decide_eq_false c3]
              refine ⟨_, rfl, iteB (b := !false) rfl ?_⟩
              obtain ⟨ds4, q1, q2⟩ := id i1'
              have lds4 : ds4.length = st.1.length := Paired.length q2
              and_intros
              refine ⟨h, C, dx, _, _, rfl, hh4, HC.cl, HC.most, hfl_most _ _ _ _, ?_⟩
              and_intros
              by_cases c4 : ((st.1.length : Nat) : Int) < ms
              · refine iteB (decide_eq_true (by rw [List.length_map, lds4]; exact c4)) ?_
                have es_ : startS pl lt ms sh st p = (st.1 ++ [(p, lt)], st.2 ++ [(("start" : Str), p)]) := if_pos ⟨⟨c1, c2⟩, c3, c4⟩
                rw [es_]
                and_intros
                refine ⟨.inl ⟨rfl, _, sql q1⟩, ?_⟩
                and_intros
                refine ⟨h, C, dx, _, _, rfl, hh4, HC.cl, HC.late, hfl_late _ _ _ _, ?_⟩
                and_intros
                intro p1 n1
                have q1' := same_upd (o := .tup [.int p, .int lt]) n1 _ _ q1
                have im1 : Imm H4 (upd H4 p1 (.tup [.int p, .int lt])) := Imm.same (same_upd n1)
                and_intros
                refine ⟨_, _, _, rfl, rfl, q1', by rw [List.length_map]; exact szl (by omega), ?_⟩
                have k1 : IsWL K (upd (upd H4 p1 (.tup [.int p, .int lt])) D (.lst (ds4.map V.ref ++ [.ref p1]))) D (st.1 ++ [(p, lt)]) := IsWL.put q1' (q2.imm im1) (sqt upd_same)
                obtain ⟨fs4, v1, v2⟩ := i2'.same (same_upd (o := .tup [.int p, .int lt]) n1)
                have k2 : IsEv K (upd (upd H4 p1 (.tup [.int p, .int lt])) D (.lst (ds4.map V.ref ++ [.ref p1]))) ev (es ++ st.2) := ⟨fs4, by rw [upd_ne nDe.symm]; exact v1, v2.imm (Imm.upd ⟨_, q1'⟩)⟩
                have k3 : SameX ev H (upd (upd H4 p1 (.tup [.int p, .int lt])) D (.lst (ds4.map V.ref ++ [.ref p1]))) := samex_mut (sX4.trans (SameX.of (same_upd n1))) nD
                generalize upd (upd H4 p1 (.tup [.int p, .int lt])) D (.lst (ds4.map V.ref ++ [.ref p1])) = H5 at k1 k2 k3 ⊢
                obtain ⟨fs5, v1, v2⟩ := id k2
                have lfs5 : fs5.length = (es ++ st.2).length := Paired.length v2
                rw [List.length_append] at lfs5
                and_intros
                refine ⟨.inl ⟨rfl, _, sql v1⟩, ?_⟩
                and_intros
                intro p2 n2
                have v1' := same_upd (o := .tup [.str "start", .int p]) n2 _ _ v1
                and_intros
                refine ⟨_, _, _, rfl, rfl, v1', by rw [List.length_map]; exact szl (by omega), ?_⟩
                have k4 : IsEv K (upd (upd H5 p2 (.tup [.str "start", .int p])) ev (.lst (fs5.map V.ref ++ [.ref p2]))) ev (es ++ st.2 ++ [(("start" : Str), p)]) := IsEv.put v1' (v2.imm (Imm.same (same_upd n2))) (sqt upd_same)
                rw [List.append_assoc] at k4
                exact ⟨_, _, rfl, (k3.trans (SameX.of (same_upd n2))).trans SameX.upd, (k1.same (same_upd n2)).x nDe SameX.upd ⟨_, v1'⟩, k4⟩
              · refine iteB0 (decide_eq_false (by rw [List.length_map, lds4]; exact c4)) ?_
                exact ⟨_, _, rfl, sX4, out fun z => c4 z.2.2⟩
          · refine iteB0 (decide_eq_false c2) ?_
            refine iteB0 rfl ?_
            exact ⟨_, _, rfl, sX4, out fun z => c2 z.1.2⟩
        · refine iteB0 (decide_eq_false c1) ?_
          refine ⟨_, rfl, iteB0 rfl ?_⟩
          refine iteB0 rfl ?_
          exact ⟨_, _, rfl, sX4, out fun z => c1 z.1.1⟩
  · obtain ⟨y6, y7, rfl, sX, i1, i2⟩ := h
    rw [show gs.take (gs.map V.int).length = gs by rw [List.length_map]; exact List.take_length] at i1 i2
    and_intros
    exact q D H' sX nD nDe i1 i2
end
end St

namespace St
open PySem PySem.Spec PyProof.Rows L2
abbrev s_gone_on : Stmt := topS 35
abbrev N_gone_on : List Str := ["house", "guesser", "state", "place", "events", "shelf", "way", "known", "guessed"]
abbrev p_gone_on : List Str := ["house", "guesser", "state", "place"]
theorem sc_gone_on : FnScope N_gone_on p_gone_on (defScope s_gone_on) := ⟨rfl, rfl, rfl, by decide +kernel, rfl, by decide +kernel, by decide +kernel⟩
abbrev s_begun : Stmt := topS 30
abbrev N_begun : List Str := ["guesser"]
abbrev p_begun : List Str := ["guesser"]
theorem sc_begun : FnScope N_begun p_begun (defScope s_begun) := ⟨rfl, rfl, rfl, by decide +kernel, rfl, by decide +kernel, by decide +kernel⟩
/-- a run's state -/
abbrev RSt := Shelf × Way × Sg
def IsSt (K : PySem.W.Frag) (H : Hp) (a : Addr) (s : RSt) : Prop := ∃ (a1 a2 : Addr) (v : V), SqT K H a [.ref a1, .ref a2, v] ∧ IsSh K H a1 s.1 ∧ IsWT K H a2 s.2.1 ∧ IsS K H s.2.2 v
theorem IsSt.imm {K : PySem.W.Frag} {H H' : Hp} {a : Addr} {s : RSt} (h : IsSt K H a s) (e : Imm H H') : IsSt K H' a s := by
  obtain ⟨a1, a2, v, h1, h2, h3, h4⟩ := h
  exact ⟨a1, a2, v, e.t h1, h2.imm e, h3.imm e, h4.imm e⟩
def goneP (pl rm lt ms : Int) (g : G) (s : RSt) (p : Int) : RSt × Evs :=
  (((askedP rm (comeP rm s.1 s.2.1).1 (comeP rm s.1 s.2.1).2.1 p).1, (startedP pl lt ms (askedP rm (comeP rm s.1 s.2.1).1 (comeP rm s.1 s.2.1).2.1 p).1 (askedP rm (comeP rm s.1 s.2.1).1 (comeP rm s.1 s.2.1).2.1 p).2.1 (stepG g s.2.2 p).2).1, (stepG g s.2.2 p).1),
   (comeP rm s.1 s.2.1).2.2 ++ (askedP rm (comeP rm s.1 s.2.1).1 (comeP rm s.1 s.2.1).2.1 p).2.2 ++ (startedP pl lt ms (askedP rm (comeP rm s.1 s.2.1).1 (comeP rm s.1 s.2.1).2.1 p).1 (askedP rm (comeP rm s.1 s.2.1).1 (comeP rm s.1 s.2.1).2.1 p).2.1 (stepG g s.2.2 p).2).2)
theorem askedP_len (rm : Int) (sh : Shelf) (wy : Way) (p : Int) : (askedP rm sh wy p).1.length ≤ sh.length + 1 ∧ (askedP rm sh wy p).2.1.length ≤ wy.length ∧ (askedP rm sh wy p).2.2.length ≤ 2 := by
  unfold askedP
  split
  · refine ⟨?_, Nat.le_refl _, by show 1 ≤ 2; decide⟩
    show (_ ++ [_]).length ≤ _
    rw [List.length_append]
    exact Nat.succ_le_succ (List.length_filter_le _ _)
  · have ll := laidP_len (room := rm) (sh := sh) (p := p) (w := false)
    refine ⟨ll.1, List.length_filter_le _ _, ?_⟩
    show (_ ++ [_]).length ≤ _
    rw [List.length_append]
    exact Nat.succ_le_succ ll.2
theorem sameX_same {H H1 H' : Hp} {r : Addr} (a : Same H H1) (b : SameX r H1 H') (n : H r = none) : Same H H' := fun c o h => b c o (ne_of_none h n) (a c o h)
section
variable {P : Program} {w : World} {K : PySem.W.Frag} {mg : Str → Option Value} {base : Heap} {f f1 f2 f3 f4 f5 f6 f7 C : Addr} {fd fd1 fd2 fd3 fd4 fd5 fd6 fd7 : FuncData}
def GoneQ (K : PySem.W.Frag) (H : Hp) (Q : VK) (r : RSt × Evs) : Prop := ∀ (q st ev : Addr) (H' : Hp), Same H H' → H ev = none → H' q = some (.tup [.ref st, .ref ev]) → IsSt K H' st r.1 → IsEv K H' ev r.2 → Q (.ref q) H'
def spGone (K : PySem.W.Frag) (C : Addr) : Sp := fun vs H Q _ => ∃ (h st : Addr) (v : V) (g : G) (pl rm lt ms p : Int) (s : RSt) (N : Nat), vs = [.ref h, v, .ref st, .int p] ∧ IsH C H h pl rm lt ms ∧ IsG K H g v ∧ good 3 g = true ∧ IsSt K H st s ∧ Fit g s.2.2 ∧ okS N s.2.2 ∧ N ≤ 10000 ∧ 1 ≤ rm ∧ s.1.length ≤ 100 ∧ s.2.1.length ≤ 100 ∧
  GoneQ K H Q (goneP pl rm lt ms g s p)
theorem ok_gone_on (T : Nms mg) (HC : HouseC K C) (D_laid : Df K mg "laid" s_laid p_laid f1 fd1) (D_come : Df K mg "come" s_come p_come f2 fd2) (D_asked : Df K mg "asked" s_asked p_asked f3 fd3) (D_started : Df K mg "started" s_started p_started f4 fd4)
    (D_strided : Df K mg "strided" s_strided p_strided f5 fd5) (D_paired : Df K mg "paired" s_paired p_paired f6 fd6) (D_stepped : Df K mg "stepped" s_stepped p_stepped f7 fd7) (F : Fun K "gone_on" "gone_on" s_gone_on f fd) : FnOk P w K mg base CX0 6 f fd p_gone_on (spGone K C) := by
  have G_come : FnOk P w K mg base CX0 2 f2 fd2 p_come (spCome K C) := ok_come T HC D_laid D_come.F
  have G_asked : FnOk P w K mg base CX0 2 f3 fd3 p_asked (spAsked K C) := ok_asked T HC D_laid D_asked.F
  have G_started : FnOk P w K mg base CX0 1 f4 fd4 p_started (spStarted K C) := ok_started T HC D_started.F
  have G_stepped : FnOk P w K mg base CX0 5 f7 fd7 p_stepped (spStepped K 4) := ok_stepped T D_strided D_paired D_stepped 4
  refine F.ok sc_gone_on (fun vs H Q E h => ?_) (fun cdv A outer s H vs Q E hr h => ?_)
  · obtain ⟨h, st, v, g, pl, rm, lt, ms, p, s, N, rfl, _⟩ := h
    rfl
  obtain ⟨h, st, v, g, pl, rm, lt, ms, p, s, N, rfl, hh, hG, hg, ⟨a1, a2, v3, hst, hsh, hwy, hkn⟩, hf, ho, hN, h1, hls, hlw, q⟩ := h
  obtain ⟨sh, wy, kn⟩ := s
  refine ⟨_, (pss_cons (ps_set (i := 4) sc_gone_on.nd rfl (Or.inl rfl) (pe_lst pa_nil))
  (pss_cons (ps_asg (pe_call G_come (hr.mono (by first | decide | omega)) (by rfl) D_come.m D_come.F.kp D_come.b .nil pass0 (pa_cons (pv 0) (pa_cons (pe_ix ix_tup (pv 2) pe_int (fun _ _ => rfl)) (pa_cons (pe_ix ix_tup (pv 2) pe_int (fun _ _ => rfl)) (pa_cons (pv 4) pa_nil))))) (pg_tup rfl (pgs_cons (pg_name (i := 5) sc_gone_on.nd rfl (Or.inl rfl)) (pgs_cons (pg_name (i := 6) sc_gone_on.nd rfl (Or.inl rfl)) pgs_nil))))
  (pss_cons (ps_asg (pe_call G_asked (hr.mono (by first | decide | omega)) (by rfl) D_asked.m D_asked.F.kp D_asked.b .nil pass0 (pa_cons (pv 0) (pa_cons (pv 5) (pa_cons (pv 6) (pa_cons (pv 3) (pa_cons (pv 4) pa_nil)))))) (pg_tup rfl (pgs_cons (pg_name (i := 5) sc_gone_on.nd rfl (Or.inl rfl)) (pgs_cons (pg_name (i := 6) sc_gone_on.nd rfl (Or.inl rfl)) pgs_nil))))
  (pss_cons (ps_asg (pe_call G_stepped (hr.mono (by first | decide | omega)) (by rfl) D_stepped.m D_stepped.F.kp D_stepped.b .nil pass0 (pa_cons (pv 1) (pa_cons (pe_ix ix_tup (pv 2) pe_int (fun _ _ => rfl)) (pa_cons (pv 3) pa_nil)))) (pg_tup rfl (pgs_cons (pg_name (i := 7) sc_gone_on.nd rfl (Or.inl rfl)) (pgs_cons (pg_name (i := 8) sc_gone_on.nd rfl (Or.inl rfl)) pgs_nil))))
  (pss_cons (ps_set (i := 6) sc_gone_on.nd rfl (Or.inl rfl) (pe_call G_started (hr.mono (by first | decide | omega)) (by rfl) D_started.m D_started.F.kp D_started.b .nil pass0 (pa_cons (pv 0) (pa_cons (pv 5) (pa_cons (pv 6) (pa_cons (pv 8) (pa_cons (pv 4) pa_nil)))))))
  (pss_one (ps_ret (pe_tup (pa_cons (pe_tup (pa_cons (pv 5) (pa_cons (pe_callTy call_tuple_of (by rfl) T.n_tuple (by decide +kernel) (pa_cons (pv 6) pa_nil)) (pa_cons (pv 7) pa_nil)))) (pa_cons (pv 4) pa_nil)))))))))), ?_⟩
  and_intros
  intro ev nev
  have he0 : IsEv K (upd H ev (.lst [])) ev [] := ⟨[], upd_same, .nil⟩
  have s0 : Same H (upd H ev (.lst [])) := same_upd nev
  have hst0 := same_t s0 hst
  have hsh0 := hsh.imm (Imm.same s0)
  have hwy0 := hwy.imm (Imm.same s0)
  have hh0 := hh.same s0
  generalize upd H ev (.lst []) = H0 at he0 s0 hst0 hsh0 hwy0 hh0 ⊢
  and_intros
  refine ⟨h, a1, a2, ev, pl, rm, lt, ms, sh, wy, rfl, hh0, hsh0, hwy0, he0, h1, hls, hlw, fun q1 b1 b2 H1 sX1 n1 n1e hq1 i1 i2 i3 => ?_⟩
  have s1 := sameX_same s0 sX1 nev
  have clw := comeP_len rm sh wy wy.length
  rw [List.take_length] at clw
  refine ⟨q1, _, rfl, hq1, rfl, _, _, rfl, _, _, rfl, rfl, ?_⟩
  and_intros
  have clw' : (comeP rm sh wy).1.length ≤ sh.length + wy.length ∧ (comeP rm sh wy).2.1.length ≤ wy.length ∧ (comeP rm sh wy).2.2.length ≤ 2 * wy.length := clw
  have q' : GoneQ K H Q (((askedP rm (comeP rm sh wy).1 (comeP rm sh wy).2.1 p).1, (startedP pl lt ms (askedP rm (comeP rm sh wy).1 (comeP rm sh wy).2.1 p).1 (askedP rm (comeP rm sh wy).1 (comeP rm sh wy).2.1 p).2.1 (stepG g kn p).2).1, (stepG g kn p).1),
   (comeP rm sh wy).2.2 ++ (askedP rm (comeP rm sh wy).1 (comeP rm sh wy).2.1 p).2.2 ++ (startedP pl lt ms (askedP rm (comeP rm sh wy).1 (comeP rm sh wy).2.1 p).1 (askedP rm (comeP rm sh wy).1 (comeP rm sh wy).2.1 p).2.1 (stepG g kn p).2).2) := q
  have hls : sh.length ≤ 100 := hls
  have hlw : wy.length ≤ 100 := hlw
  generalize comeP rm sh wy = c at i1 i2 i3 clw' q'
  obtain ⟨csh, cwy, ces⟩ := c
  have al := askedP_len rm csh cwy p
  have cl1 : csh.length ≤ sh.length + wy.length := clw'.1
  have cl2 : cwy.length ≤ wy.length := clw'.2.1
  have cl3 : ces.length ≤ 2 * wy.length := clw'.2.2
  refine ⟨h, b1, b2, ev, pl, rm, lt, ms, p, csh, cwy, ces, rfl, hh.same s1, i1, i2, n1e, i3, h1, by omega, by omega, by omega, fun q2 b3 b4 H2 sX2 n2e b4o hq2 j1 j2 j3 => ?_⟩
  have s2 := sameX_same s1 sX2 nev
  refine ⟨q2, _, rfl, hq2, rfl, _, _, rfl, _, _, rfl, rfl, ?_⟩
  have q'' : GoneQ K H Q (((askedP rm csh cwy p).1, (startedP pl lt ms (askedP rm csh cwy p).1 (askedP rm csh cwy p).2.1 (stepG g kn p).2).1, (stepG g kn p).1),
   ces ++ (askedP rm csh cwy p).2.2 ++ (startedP pl lt ms (askedP rm csh cwy p).1 (askedP rm csh cwy p).2.1 (stepG g kn p).2).2) := q'
  generalize askedP rm csh cwy p = d at j1 j2 j3 al q''
  obtain ⟨dsh, dwy, des⟩ := d
  have al1 : dsh.length ≤ csh.length + 1 := al.1
  have al2 : dwy.length ≤ cwy.length := al.2.1
  have al3 : des.length ≤ 2 := al.2.2
  have hst2 := same_t s2 hst
  and_intros
  refine ⟨v, v3, g, kn, p, 3, N, rfl, hG.same s2, hkn.same s2, hg, by omega, by omega, hf, ho, hN, fun q3 gl v4 H3 s3 n3 k1 k2 k3 => ?_⟩
  have s23 := s2.trans s3
  refine ⟨q3, _, rfl, sqt k3, rfl, _, _, rfl, _, _, rfl, rfl, ?_⟩
  have gl24 := stepG_len (p := p) hg hf ho
  have q3' : GoneQ K H Q ((dsh, (startedP pl lt ms dsh dwy (stepG g kn p).2).1, (stepG g kn p).1), ces ++ des ++ (startedP pl lt ms dsh dwy (stepG g kn p).2).2) := q''
  generalize (stepG g kn p).2 = gs at k2 gl24 q3'
  generalize (stepG g kn p).1 = kn' at k1 q3'
  have nge : gl ≠ ev := (ne_of_none j3.at_.choose_spec n3).symm
  and_intros
  refine ⟨h, b3, b4, gl, ev, pl, rm, lt, ms, dsh, dwy, gs, ces ++ des, rfl, hh.same s23, j1.imm (Imm.same s3), j2.same s3, nge, k2, j3.same s3, by omega, by omega, by omega, by rw [List.length_append]; omega, fun b5 H4 sX4 n5 n5e m1 m2 => ?_⟩
  have s4 := sameX_same s23 sX4 nev
  have l3 := (j3.same s3).at_
  have j14 := (j1.imm (Imm.same s3)).imm (Imm.sameX sX4 l3)
  have k14 := k1.imm (Imm.sameX sX4 l3)
  have stl := startedP_len pl lt ms dsh dwy gs gs.length
  obtain ⟨cs, c1, c2⟩ := m1
  and_intros
  refine ⟨_, _, rfl, .inl ⟨sql c1, fun t nt => ?_⟩⟩
  and_intros
  intro p6 n6
  and_intros
  intro p7 n7
  have s47 : Same H4 (upd (upd (upd H4 t (.tup (cs.map V.ref))) p6 (.tup [.ref b3, .ref t, v4])) p7 (.tup [.ref p6, .ref ev])) := ((same_upd nt).trans (same_upd n6)).trans (same_upd n7)
  have et : SqT K (upd (upd (upd H4 t (.tup (cs.map V.ref))) p6 (.tup [.ref b3, .ref t, v4])) p7 (.tup [.ref p6, .ref ev])) t (cs.map V.ref) := sqt (same_upd n7 _ _ (same_upd n6 _ _ upd_same))
  have e6 : SqT K (upd (upd (upd H4 t (.tup (cs.map V.ref))) p6 (.tup [.ref b3, .ref t, v4])) p7 (.tup [.ref p6, .ref ev])) p6 [.ref b3, .ref t, v4] := sqt (same_upd n7 _ _ upd_same)
  exact q3' p7 p6 ev _ (s4.trans s47) nev upd_same ⟨b3, t, v4, e6, j14.imm (Imm.same s47), ⟨cs, et, c2.imm (Imm.same s47)⟩, k14.same s47⟩ (m2.same s47)
def spBegun (K : PySem.W.Frag) : Sp := fun vs H Q _ => ∃ (v : V) (g : G), vs = [v] ∧ IsG K H g v ∧ good 3 g = true ∧ ∀ (a : Addr) H', Same H H' → IsSt K H' a ([], [], first0 g) → Q (.ref a) H'
theorem ok_begun (T : Nms mg) (D_first_state : Df K mg "first_state" s_first_state p_first_state f1 fd1) (F : Fun K "begun" "begun" s_begun f fd) : FnOk P w K mg base CX0 5 f fd p_begun (spBegun K) := by
  have G_first_state : FnOk P w K mg base CX0 4 f1 fd1 p_first_state (spFirst K 4) := ok_first_state T D_first_state 4
  refine F.ok sc_begun (fun vs H Q E h => ?_) (fun cdv A outer s H vs Q E hr h => ?_)
  · obtain ⟨v, g, rfl, _⟩ := h
    rfl
  obtain ⟨v, g, rfl, hG, hg, q⟩ := h
  refine ⟨_, (pss_one (ps_ret (pe_tup (pa_cons (pe_tup pa_nil) (pa_cons (pe_tup pa_nil) (pa_cons (pe_call G_first_state (hr.mono (by first | decide | omega)) (by rfl) D_first_state.m D_first_state.F.kp D_first_state.b .nil pass0 (pa_cons (pv 0) pa_nil)) pa_nil)))))), ?_⟩
  and_intros
  intro p1 n1
  and_intros
  intro p2 n2
  and_intros
  have s2 : Same H (upd (upd H p1 (.tup [])) p2 (.tup [])) := (same_upd n1).trans (same_upd n2)
  refine ⟨v, g, 3, rfl, hG.same s2, hg, by omega, by omega, fun v3 H3 s3 i3 => ?_⟩
  and_intros
  intro p4 n4
  have e1 : SqT K (upd H3 p4 (.tup [.ref p1, .ref p2, v3])) p1 [] := sqt (same_upd n4 _ _ (s3 _ _ (same_upd n2 _ _ upd_same)))
  have e2 : SqT K (upd H3 p4 (.tup [.ref p1, .ref p2, v3])) p2 [] := sqt (same_upd n4 _ _ (s3 _ _ upd_same))
  exact q p4 _ ((s2.trans s3).trans (same_upd n4)) ⟨p1, p2, v3, sqt upd_same, ⟨[], e1, .nil⟩, ⟨[], e2, .nil⟩, i3.same (same_upd n4)⟩
end
end St

namespace St
open PySem PySem.Spec PyProof.Rows L2
/-! ### what the shelves keep -/
def ks {β : Type} (l : List (Int × β)) : List Int := l.map (·.1)
def isOut (w : Str) : Prop := w = "leave" ∨ w = "waste"
def isIn (w : Str) : Prop := w = "come" ∨ w = "late" ∨ w = "miss"
instance (w : Str) : Decidable (isOut w) := inferInstanceAs (Decidable (_ ∨ _))
instance (w : Str) : Decidable (isIn w) := inferInstanceAs (Decidable (_ ∨ _))
/-- the events turn the places that lie there from A to B -/
def Ch (pl : Int) : (Int → Prop) → Evs → (Int → Prop) → Prop
  | A, [], B => ∀ q, A q ↔ B q
  | A, (w, p) :: es, B => (0 ≤ p ∧ p < pl) ∧ if isOut w then A p ∧ Ch pl (fun q => A q ∧ q ≠ p) es B else if isIn w then Ch pl (fun q => A q ∨ q = p) es B else Ch pl A es B
theorem Ch.app {pl : Int} : ∀ {es fs : Evs} {A B C : Int → Prop}, Ch pl A es B → Ch pl B fs C → Ch pl A (es ++ fs) C
  | [], fs, A, B, C, h, g => by
    have e : A = B := funext fun q => propext (h q)
    subst e
    exact g
  | (w, p) :: es, fs, A, B, C, h, g => by
    show _ ∧ _
    refine ⟨h.1, ?_⟩
    have h2 := h.2
    by_cases c1 : isOut w
    · rw [if_pos c1] at h2 ⊢
      exact ⟨h2.1, Ch.app h2.2 g⟩
    · rw [if_neg c1] at h2 ⊢
      by_cases c2 : isIn w
      · rw [if_pos c2] at h2 ⊢
        exact Ch.app h2 g
      · rw [if_neg c2] at h2 ⊢
        exact Ch.app h2 g
theorem Ch.iff {pl : Int} {es : Evs} {A B C : Int → Prop} (h : Ch pl A es B) (e : ∀ q, B q ↔ C q) : Ch pl A es C := by
  have e : B = C := funext fun q => propext (e q)
  subst e
  exact h
theorem laid_inv {pl rm : Int} {sh : Shelf} {p : Int} {w : Bool} {word : Str} {r : List Int} (hw : isIn word) (h1 : 1 ≤ rm) (nd : (ks sh ++ p :: r).Nodup) (hr : ∀ q ∈ ks sh ++ p :: r, 0 ≤ q ∧ q < pl) :
    (ks (laidP rm sh p w).1 ++ r).Nodup ∧ (∀ q ∈ ks (laidP rm sh p w).1 ++ r, 0 ≤ q ∧ q < pl) ∧ Ch pl (· ∈ ks sh) ((laidP rm sh p w).2 ++ [(word, p)]) (· ∈ ks (laidP rm sh p w).1) := by
  have nOut : ¬ isOut word := by
    rcases hw with rfl | rfl | rfl <;> decide
  have hp := hr p (by simp)
  unfold laidP
  split
  · cases sh with
    | nil =>
      refine ⟨nd, hr, hp, ?_⟩
      rw [if_neg nOut, if_pos hw]
      intro q
      simp [ks]
    | cons e t =>
      have e0 : ks (t ++ [(p, w)]) ++ r = ks t ++ p :: r := by simp [ks]
      have nd' : (e.1 :: (ks t ++ p :: r)).Nodup := nd
      rw [List.nodup_cons] at nd'
      refine ⟨by rw [e0]; exact nd'.2, by rw [e0]; exact fun q hq => hr q (List.mem_cons_of_mem _ hq), hr e.1 (List.mem_cons_self ..), ?_⟩
      have o : isOut (if e.2 then "waste" else "leave" : Str) := by split <;> decide
      rw [if_pos o]
      refine ⟨List.mem_cons_self .., hp, ?_⟩
      rw [if_neg nOut, if_pos hw]
      intro q
      have hne : e.1 ∉ ks t := fun z => nd'.1 (List.mem_append_left _ z)
      have z1 : q ∈ ks (e :: t) ↔ q = e.1 ∨ q ∈ ks t := by simp [ks]
      have z2 : q ∈ ks (t ++ [(p, w)]) ↔ q ∈ ks t ∨ q = p := by simp [ks]
      show (q ∈ ks (e :: t) ∧ q ≠ e.1) ∨ q = p ↔ q ∈ ks (t ++ [(p, w)])
      rw [z1, z2]
      constructor
      · rintro (⟨h | h, n⟩ | h)
        · exact absurd h n
        · exact .inl h
        · exact .inr h
      · rintro (h | h)
        · exact .inl ⟨.inr h, fun z => hne (z ▸ h)⟩
        · exact .inr h
  · have e0 : ks (sh ++ [(p, w)]) ++ r = ks sh ++ p :: r := by simp [ks]
    refine ⟨by rw [e0]; exact nd, by rw [e0]; exact hr, hp, ?_⟩
    rw [if_neg nOut, if_pos hw]
    intro q
    show q ∈ ks sh ∨ q = p ↔ _
    simp [ks]
def CI (pl rm : Int) (A : Int → Prop) (n : Nat) (s : Shelf × Way × Evs) : Prop := (ks s.1 ++ ks s.2.1).Nodup ∧ (∀ q ∈ ks s.1 ++ ks s.2.1, 0 ≤ q ∧ q < pl) ∧ ((s.1.length : Nat) : Int) ≤ rm ∧ Ch pl A s.2.2 (· ∈ ks s.1) ∧ s.2.1.length ≤ n
def AI (pl rm : Int) (A : Int → Prop) (p : Int) (a : Shelf × Way × Evs) : Prop := (ks a.1 ++ ks a.2.1).Nodup ∧ (∀ q ∈ ks a.1 ++ ks a.2.1, 0 ≤ q ∧ q < pl) ∧ ((a.1.length : Nat) : Int) ≤ rm ∧ Ch pl A a.2.2 (· ∈ ks a.1) ∧ p ∈ ks a.1 ∧ p ∉ ks a.2.1
def SI (pl ms : Int) (sh : Shelf) (s : Way × Evs) : Prop := (ks sh ++ ks s.1).Nodup ∧ (∀ q ∈ ks sh ++ ks s.1, 0 ≤ q ∧ q < pl) ∧ ((s.1.length : Nat) : Int) ≤ ms ∧ Ch pl (· ∈ ks sh) s.2 (· ∈ ks sh)
theorem come_inv {pl rm : Int} {A : Int → Prop} (h1 : 1 ≤ rm) : ∀ (wy : Way) (sh : Shelf) (left : Way) (evs : Evs), (ks sh ++ (ks left ++ ks wy)).Nodup → (∀ q ∈ ks sh ++ (ks left ++ ks wy), 0 ≤ q ∧ q < pl) → ((sh.length : Nat) : Int) ≤ rm → Ch pl A evs (· ∈ ks sh) → CI pl rm A (left.length + wy.length) (wy.foldl (comeS rm) (sh, left, evs))
  | [], sh, left, evs, nd, hr, hl, hc => by
    have e : ks left ++ ks ([] : Way) = ks left := by simp [ks]
    rw [e] at nd hr
    exact ⟨nd, hr, hl, hc, Nat.le_refl _⟩
  | (p, t) :: wy, sh, left, evs, nd, hr, hl, hc => by
    show CI _ _ _ _ (wy.foldl (comeS rm) (comeS rm (sh, left, evs) (p, t)))
    have e1 : ks ((p, t) :: wy) = p :: ks wy := rfl
    rw [e1] at nd hr
    by_cases c : t = 0
    · have e2 : comeS rm (sh, left, evs) (p, t) = ((laidP rm sh p true).1, left, evs ++ (laidP rm sh p true).2 ++ [(("come" : Str), p)]) := if_pos c
      rw [e2]
      have pm : (ks sh ++ (ks left ++ p :: ks wy)).Perm (ks sh ++ p :: (ks left ++ ks wy)) := List.Perm.append_left _ List.perm_middle
      obtain ⟨l1, l2, l3⟩ := laid_inv (pl := pl) (w := true) (word := "come") (.inl rfl) h1 (pm.nodup_iff.mp nd) (fun q hq => hr q (pm.mem_iff.mpr hq))
      obtain ⟨i1, i2, i3, i4, i5⟩ := come_inv (A := A) h1 wy _ left (evs ++ (laidP rm sh p true).2 ++ [(("come" : Str), p)]) l1 l2 (laidP_room h1 hl) (by rw [List.append_assoc]; exact hc.app l3)
      exact ⟨i1, i2, i3, i4, Nat.le_trans i5 (by first | (simp; done) | (simp; omega))⟩
    · have e2 : comeS rm (sh, left, evs) (p, t) = (sh, left ++ [(p, t - 1)], evs) := if_neg c
      rw [e2]
      have e3 : ks (left ++ [(p, t - 1)]) ++ ks wy = ks left ++ p :: ks wy := by simp [ks]
      obtain ⟨i1, i2, i3, i4, i5⟩ := come_inv (A := A) h1 wy sh (left ++ [(p, t - 1)]) evs (by rw [e3]; exact nd) (by rw [e3]; exact hr) hl hc
      exact ⟨i1, i2, i3, i4, Nat.le_trans i5 (by first | (simp; done) | (simp; omega))⟩
theorem hit_perm {sh : Shelf} {e : Int × Bool} {p : Int} (nd : (ks sh).Nodup) (he : e ∈ sh) (ep : e.1 = p) : (ks (sh.filter (fun o => decide (o ≠ e)) ++ [(p, false)])).Perm (ks sh) := by
  have nd' : sh.Nodup := List.Pairwise.of_map (S := (· ≠ ·)) (f := (·.1)) (fun a b h e => h (congrArg _ e)) nd
  have e1 : sh.filter (fun o => decide (o ≠ e)) = sh.erase e := by
    rw [List.Nodup.erase_eq_filter nd']
    refine List.filter_congr fun x _ => ?_
    by_cases c : x = e
    · simp [c]
    · simp [c]
  rw [e1]
  have pm : sh.Perm (e :: sh.erase e) := List.perm_cons_erase he
  have z : (ks sh).Perm (ks (e :: sh.erase e)) := pm.map _
  refine List.Perm.trans ?_ z.symm
  show (ks (sh.erase e ++ [(p, false)])).Perm (e.1 :: ks (sh.erase e))
  rw [ep]
  have : ks (sh.erase e ++ [(p, false)]) = ks (sh.erase e) ++ [p] := by simp [ks]
  rw [this]
  exact List.perm_append_comm (l₁ := ks (sh.erase e)) (l₂ := [p])
theorem find_ks {sh : Shelf} {p : Int} {e : Int × Bool} (h : sh.find? (fun e => decide (e.1 = p)) = some e) : e ∈ sh ∧ e.1 = p := ⟨List.mem_of_find?_eq_some h, by have := List.find?_some h; exact of_decide_eq_true this⟩
theorem asked_inv {pl rm : Int} {sh : Shelf} {wy : Way} {p : Int} (h1 : 1 ≤ rm) (nd : (ks sh ++ ks wy).Nodup) (hr : ∀ q ∈ ks sh ++ ks wy, 0 ≤ q ∧ q < pl) (hl : ((sh.length : Nat) : Int) ≤ rm) (hp : 0 ≤ p ∧ p < pl) : AI pl rm (· ∈ ks sh) p (askedP rm sh wy p) := by
  unfold askedP
  cases e : sh.find? (fun e => decide (e.1 = p)) with
  | some x =>
    obtain ⟨hx, xp⟩ := find_ks e
    have pm := hit_perm (List.nodup_append.mp nd).1 hx xp
    have pmw : (ks (sh.filter (fun o => decide (o ≠ x)) ++ [(p, false)]) ++ ks wy).Perm (ks sh ++ ks wy) := pm.append_right _
    have hpk : p ∈ ks sh := List.mem_map.mpr ⟨x, hx, xp⟩
    refine ⟨pmw.nodup_iff.mpr nd, fun q hq => hr q (pmw.mem_iff.mp hq), ?_, ⟨hp, ?_⟩, pm.mem_iff.mpr hpk, fun z => (List.nodup_append.mp nd).2.2 p hpk p z rfl⟩
    · have : (sh.filter (fun o => decide (o ≠ x)) ++ [(p, false)]).length = sh.length := by
        have := pm.length_eq
        unfold ks at this
        rw [List.length_map, List.length_map] at this
        exact this
      show (((sh.filter (fun o => decide (o ≠ x)) ++ [(p, false)]).length : Nat) : Int) ≤ rm
      rw [this]
      exact hl
    · have n1 : ¬ isOut (if x.2 then "first" else "hit" : Str) := by split <;> decide
      have n2 : ¬ isIn (if x.2 then "first" else "hit" : Str) := by split <;> decide
      rw [if_neg n1, if_neg n2]
      exact fun q => pm.mem_iff.symm
  | none =>
    have hpn : p ∉ ks sh := fun z => by
      obtain ⟨y, hy, ey⟩ := List.mem_map.mp z
      have := List.find?_eq_none.mp e y hy
      simp at this
      exact this ey
    have hw : isIn (if (wy.filter fun e => decide (e.1 ≠ p)).length = wy.length then "miss" else "late" : Str) := by split <;> decide
    have sub : (ks (wy.filter fun e => decide (e.1 ≠ p))).Sublist (ks wy) := List.filter_sublist.map _
    have hpw : p ∉ ks (wy.filter fun e => decide (e.1 ≠ p)) := fun z => by
      obtain ⟨y, hy, ey⟩ := List.mem_map.mp z
      have := (List.mem_filter.mp hy).2
      simp at this
      exact this ey
    have ndp : (ks sh ++ p :: ks (wy.filter fun e => decide (e.1 ≠ p))).Nodup := by
      rw [List.nodup_append] at nd ⊢
      refine ⟨nd.1, List.nodup_cons.mpr ⟨hpw, nd.2.1.sublist sub⟩, fun a ha b hb => ?_⟩
      rcases List.mem_cons.mp hb with rfl | hb
      · exact fun z => hpn (z ▸ ha)
      · exact nd.2.2 a ha b (sub.subset hb)
    have hrp : ∀ q ∈ ks sh ++ p :: ks (wy.filter fun e => decide (e.1 ≠ p)), 0 ≤ q ∧ q < pl := fun q hq => by
      rcases List.mem_append.mp hq with hq | hq
      · exact hr q (List.mem_append_left _ hq)
      · rcases List.mem_cons.mp hq with rfl | hq
        · exact hp
        · exact hr q (List.mem_append_right _ (sub.subset hq))
    obtain ⟨l1, l2, l3⟩ := laid_inv (pl := pl) (w := false) hw h1 ndp hrp
    refine ⟨l1, l2, laidP_room h1 hl, l3, ?_, hpw⟩
    show p ∈ ks (laidP rm sh p false).1
    unfold laidP
    split
    · cases sh with
      | nil => exact List.mem_cons_self ..
      | cons e t =>
        show p ∈ ks (t ++ [(p, false)])
        simp [ks]
    · show p ∈ ks (sh ++ [(p, false)])
      simp [ks]
theorem started_inv {pl lt ms : Int} {sh : Shelf} : ∀ (gs : List Int) (wy : Way) (evs : Evs), (ks sh ++ ks wy).Nodup → (∀ q ∈ ks sh ++ ks wy, 0 ≤ q ∧ q < pl) → ((wy.length : Nat) : Int) ≤ ms → Ch pl (· ∈ ks sh) evs (· ∈ ks sh) → SI pl ms sh (gs.foldl (startS pl lt ms sh) (wy, evs))
  | [], wy, evs, nd, hr, hl, hc => ⟨nd, hr, hl, hc⟩
  | g :: gs, wy, evs, nd, hr, hl, hc => by
    show SI _ _ _ (gs.foldl (startS pl lt ms sh) (startS pl lt ms sh (wy, evs) g))
    by_cases c : (0 ≤ g ∧ g < pl) ∧ g ∉ sh.map (·.1) ++ wy.map (·.1) ∧ ((wy.length : Nat) : Int) < ms
    · have e : startS pl lt ms sh (wy, evs) g = (wy ++ [(g, lt)], evs ++ [(("start" : Str), g)]) := if_pos c
      rw [e]
      have ek : ks sh ++ ks (wy ++ [(g, lt)]) = ks sh ++ ks wy ++ [g] := by simp [ks]
      refine started_inv gs _ _ ?_ ?_ ?_ (hc.app ⟨c.1, ?_⟩)
      · rw [ek, List.nodup_append]
        exact ⟨nd, by simp, fun a ha b hb => by rw [List.mem_singleton.mp hb]; exact fun z => c.2.1 (z ▸ ha)⟩
      · rw [ek]
        intro q hq
        rcases List.mem_append.mp hq with hq | hq
        · exact hr q hq
        · rw [List.mem_singleton.mp hq]
          exact c.1
      · rw [List.length_append]
        show ((wy.length + 1 : Nat) : Int) ≤ ms
        have := c.2.2
        omega
      · rw [if_neg (by decide), if_neg (by decide)]
        exact fun q => Iff.rfl
    · have e : startS pl lt ms sh (wy, evs) g = (wy, evs) := if_neg c
      rw [e]
      exact started_inv gs wy evs nd hr hl hc
/-- what holds of a state -/
structure InvS (pl rm ms : Int) (sh : Shelf) (wy : Way) : Prop where
  nd : (ks sh ++ ks wy).Nodup
  rg : ∀ q ∈ ks sh ++ ks wy, 0 ≤ q ∧ q < pl
  l1 : ((sh.length : Nat) : Int) ≤ rm
  l2 : ((wy.length : Nat) : Int) ≤ ms
theorem gone_inv {pl rm lt ms : Int} {g : G} {s : RSt} {p : Int} (h1 : 1 ≤ rm) (I : InvS pl rm ms s.1 s.2.1) (hp : 0 ≤ p ∧ p < pl) :
    InvS pl rm ms (goneP pl rm lt ms g s p).1.1 (goneP pl rm lt ms g s p).1.2.1 ∧ Ch pl (· ∈ ks s.1) (goneP pl rm lt ms g s p).2 (· ∈ ks (goneP pl rm lt ms g s p).1.1) ∧ p ∈ ks (goneP pl rm lt ms g s p).1.1 := by
  obtain ⟨sh, wy, kn⟩ := s
  obtain ⟨c1, c2, c3, c4, c5⟩ := come_inv (A := (· ∈ ks sh)) h1 wy sh [] [] I.nd I.rg I.l1 (fun q => Iff.rfl)
  have c5 : (wy.foldl (comeS rm) (sh, [], [])).2.1.length ≤ wy.length := by
    have : ([] : Way).length + wy.length = wy.length := by simp
    rw [this] at c5
    exact c5
  obtain ⟨a1, a2, a3, a4, a5, a6⟩ := asked_inv (p := p) h1 c1 c2 c3 hp
  have a7 := (askedP_len rm (wy.foldl (comeS rm) (sh, [], [])).1 (wy.foldl (comeS rm) (sh, [], [])).2.1 p).2.1
  have l2 := I.l2
  have l2 : ((wy.length : Nat) : Int) ≤ ms := l2
  obtain ⟨s1, s2, s3, s4⟩ := started_inv (lt := lt) (ms := ms) (stepG g kn p).2 _ [] a1 a2 (by omega) (fun q => Iff.rfl)
  exact ⟨⟨s1, s2, a3, s3⟩, (c4.app a4).app s4, a5⟩
end St

namespace St
open PySem PySem.Spec PyProof.Rows L2
abbrev s_is_deed : Stmt := topS 26
abbrev N_is_deed : List Str := ["places", "deed"]
abbrev p_is_deed : List Str := ["places", "deed"]
theorem sc_is_deed : FnScope N_is_deed p_is_deed (defScope s_is_deed) := ⟨rfl, rfl, rfl, by decide +kernel, rfl, by decide +kernel, by decide +kernel⟩
abbrev s_need_row : Stmt := topS 27
abbrev N_need_row : List Str := ["places", "row", "number"]
abbrev p_need_row : List Str := ["places", "row"]
theorem sc_need_row : FnScope N_need_row p_need_row (defScope s_need_row) := ⟨rfl, rfl, rfl, by decide +kernel, rfl, by decide +kernel, by decide +kernel⟩
section
variable {P : Program} {w : World} {K : PySem.W.Frag} {mg : Str → Option Value} {base : Heap} {f f1 f2 f3 f4 C dS dM : Addr} {fd fd1 fd2 fd3 fd4 : FuncData}
def spIsDeed (K : PySem.W.Frag) : Sp := fun vs H Q _ => ∃ (a : Addr) (pl : Int) (d : Deed), vs = [.int pl, .ref a] ∧ IsDeed K H a d ∧ Deed.Good pl d ∧ Q (.bl true) H
theorem ok_is_deed (T : Nms mg) (Cn : Cns mg) (F : Fun K "is_deed" "is_deed" s_is_deed f fd) : FnOk P w K mg base CX0 1 f fd p_is_deed (spIsDeed K) := by
  refine F.ok sc_is_deed (fun vs H Q E h => ?_) (fun cdv A outer s H vs Q E hr h => ?_)
  · obtain ⟨a, pl, d, rfl, _⟩ := h
    rfl
  obtain ⟨a, pl, ⟨p, v⟩, rfl, hd, g, q⟩ := h
  refine ⟨_, (pss_cons (ps_if (PW.pt (pw_and (pt_cmpR op_eq (pe_callB call_len_seq (by rfl) T.n_len (by decide +kernel) (pa_cons (pv 1) pa_nil)) pe_int (nomark _)) (pw_and1 (pt_cmpR op_eq (pe_ix ix_tup (pv 1) pe_int (fun _ _ => rfl)) pe_str (nomark _)))))
    (pss_one (ps_ret (pe_chain op_le op_lt pe_int (pe_ix ix_tup (pv 1) pe_int (fun _ _ => rfl)) (pv 0))))
    (pss_nil))
  (pss_cons (ps_if (PW.pt (pw_or (pt_cmpR op_ne (pe_callB call_len_seq (by rfl) T.n_len (by decide +kernel) (pa_cons (pv 1) pa_nil)) pe_int (nomark _)) (pw_or1 (pt_cmpR op_ne (pe_ix ix_tup (pv 1) pe_int (fun _ _ => rfl)) pe_str (nomark _)))))
    (pss_one (ps_ret pe_bl))
    (pss_nil))
  (pss_one (ps_ret (pe_and (pe_chain op_le op_lt pe_int (pe_ix ix_tup (pv 1) pe_int (fun _ _ => rfl)) (pv 0)) (pe_one (pe_chain op_le op_le pe_int (pe_ix ix_tup (pv 1) pe_int (fun _ _ => rfl)) (pe_gint (by rfl) Cn.MOST_NUMBER)))))))), ?_⟩
  cases v with
  | none =>
    have hd : SqT K H a [.str "read", .int p] := hd
    obtain ⟨g1, g2⟩ := g
    and_intros
    refine iteB (decide_eq_true g1) ?_
    refine ⟨_, rfl, _, _, rfl, rfl, ?_⟩
    show Q (V.bl (decide (p < pl))) H
    rw [decide_eq_true g2]
    exact q
  | some v =>
    have hd : SqT K H a [.str "write", .int p, .int v] := hd
    obtain ⟨⟨g1, g2⟩, g3, g4⟩ := g
    and_intros
    refine iteB (decide_eq_true g1) ?_
    refine ⟨_, rfl, _, _, rfl, rfl, _, rfl, ?_⟩
    rw [decide_eq_true g2]
    refine iteB rfl ?_
    and_intros
    refine iteB (decide_eq_true g3) ?_
    refine ⟨_, _, rfl, rfl, ?_⟩
    show Q (V.bl (decide (v ≤ 99))) H
    rw [decide_eq_true g4]
    exact q
def spNeedRow (K : PySem.W.Frag) : Sp := fun vs H Q _ => ∃ (a : Addr) (as : List Addr) (pl : Int) (ds : List Deed), vs = [.int pl, .ref a] ∧ SqL K H a (as.map V.ref) ∧ PrD K H as ds ∧ (∀ d ∈ ds, Deed.Good pl d) ∧ ds.length ≤ 100 ∧ Q .non H
theorem ok_need_row (T : Nms mg) (Cn : Cns mg) (D_is_deed : Df K mg "is_deed" s_is_deed p_is_deed f1 fd1) (F : Fun K "need_row" "need_row" s_need_row f fd) : FnOk P w K mg base CX0 2 f fd p_need_row (spNeedRow K) := by
  have G_is_deed : FnOk P w K mg base CX0 1 f1 fd1 p_is_deed (spIsDeed K) := ok_is_deed T Cn D_is_deed.F
  refine F.ok sc_need_row (fun vs H Q E h => ?_) (fun cdv A outer s H vs Q E hr h => ?_)
  · obtain ⟨a, as, pl, ds, rfl, _⟩ := h
    rfl
  obtain ⟨a, as, pl, ds, rfl, hs, pd, hg, hl, q⟩ := h
  refine ⟨_, (pss_one (ps_for PassesOwn.never rfl (pi_range1 rfl T.n_range (pa_cons (pe_callB call_len_seq (by rfl) T.n_len (by decide +kernel) (pa_cons (pv 1) pa_nil)) pa_nil)) (pg_name (i := 2) sc_need_row.nd rfl (Or.inl rfl))
    (pss_one (ps_if (PW.pt (pw_or (pt_cmpR op_ge (pv 2) (pe_gint (by rfl) Cn.MOST_DEEDS) (nomark _)) (pw_or1 (pt_not (pt_val (pe_call G_is_deed (hr.mono (by first | decide | omega)) (by rfl) D_is_deed.m D_is_deed.F.kp D_is_deed.b .nil pass0 (pa_cons (pv 0) (pa_cons (pe_ix ix_list (pv 1) (pv 2) (fun _ _ => rfl)) pa_nil))))))))
      (pss_one (ps_never))
      (pss_nil))))), ?_⟩
  have las : as.length = ds.length := Paired.length pd
  refine ⟨_, rfl, _, _, rfl, .inl hs, _, rfl, by omega, by rw [List.length_map]; omega, ?_⟩
  rw [show ((((as.map V.ref).length : Nat) : Int)).toNat = as.length by rw [List.length_map]; exact Int.toNat_natCast _]
  refine for_range (lo := 0) (n := as.length) (fun i σ H' => ∃ y2, σ = [some (.int pl), some (.ref a), y2] ∧ H = H') ⟨none, rfl, rfl⟩ (fun i σ H' hi h => ?_) (fun σ H' h => ?_)
  · obtain ⟨y2, rfl, rfl⟩ := h
    and_intros
    refine iteB0 (decide_eq_false (by omega)) ?_
    have hi' : i < ds.length := by omega
    have ea : (as.map V.ref)[i]? = some (.ref as[i]) := by rw [List.getElem?_map, List.getElem?_eq_getElem hi]; rfl
    obtain ⟨u, d, eu, hu, _, ed⟩ := pr_at pd ea
    cases eu
    have ez : (0 + (i : Int)) = ((i : Nat) : Int) := by omega
    rw [ez]
    and_intros
    refine ⟨_, _, _, _, rfl, rfl, hs, atI_nat ea, ?_⟩
    refine ⟨as[i], pl, d, rfl, hu, hg _ (List.mem_of_getElem? ed), ?_⟩
    and_intros
    rfl
  · obtain ⟨y2, rfl, rfl⟩ := h
    exact q
end
end St

namespace St
open PySem PySem.Spec PyProof.Rows L2
abbrev s_need_all : Stmt := topS 39
abbrev N_need_all : List Str := ["setting", "guesser", "row"]
abbrev p_need_all : List Str := ["setting", "guesser", "row"]
theorem sc_need_all : FnScope N_need_all p_need_all (defScope s_need_all) := ⟨rfl, rfl, rfl, by decide +kernel, rfl, by decide +kernel, by decide +kernel⟩
section
variable {P : Program} {w : World} {K : PySem.W.Frag} {mg : Str → Option Value} {base : Heap} {f f1 f2 f3 f4 C dS dM : Addr} {fd fd1 fd2 fd3 fd4 : FuncData}
def spNeedAll (K : PySem.W.Frag) : Sp := fun vs H Q _ => ∃ (b a : Addr) (v : V) (s : Stg) (g : G) (as : List Addr) (ds : List Deed), vs = [.ref b, v, .ref a] ∧ IsSet K H b s ∧ s.Good ∧ IsG K H g v ∧ good 3 g = true ∧ SqL K H a (as.map V.ref) ∧ PrD K H as ds ∧ (∀ d ∈ ds, Deed.Good ((s.mem.length : Nat) : Int) d) ∧ ds.length ≤ 100 ∧ ∀ H', Same H H' → Q .non H'
theorem ok_need_all (T : Nms mg) (B : Tab K w mg dS dM) (Cn : Cns mg) (D_is_guesser : Df K mg "is_guesser" s_is_guesser p_is_guesser f1 fd1) (D_need_guesser : Df K mg "need_guesser" s_need_guesser p_need_guesser f2 fd2) (D_need_setting : Df K mg "need_setting" s_need_setting p_need_setting f3 fd3) {f5 f6 : Addr} {fd5 fd6 : FuncData}
    (D_is_deed : Df K mg "is_deed" s_is_deed p_is_deed f5 fd5) (D_need_row : Df K mg "need_row" s_need_row p_need_row f6 fd6) (F : Fun K "need_all" "need_all" s_need_all f fd) : FnOk P w K mg base CX0 7 f fd p_need_all (spNeedAll K) := by
  have G_need_guesser : FnOk P w K mg base CX0 6 f2 fd2 p_need_guesser (spNeedG K) := ok_need_guesser T B D_is_guesser D_need_guesser
  have G_need_setting : FnOk P w K mg base CX0 1 f3 fd3 p_need_setting (spNeedSet K) := ok_need_setting T Cn D_need_setting.F
  have G_need_row : FnOk P w K mg base CX0 2 f6 fd6 p_need_row (spNeedRow K) := ok_need_row T Cn D_is_deed D_need_row.F
  refine F.ok sc_need_all (fun vs H Q E h => ?_) (fun cdv A outer s H vs Q E hr h => ?_)
  · obtain ⟨b, a, v, s, g, as, ds, rfl, _⟩ := h
    rfl
  obtain ⟨b, a, v, s, g, as, ds, rfl, hS, gS, hG, hg, hs, pd, hgd, hl, q⟩ := h
  refine ⟨_, (pss_cons (ps_expr (pe_call G_need_setting (hr.mono (by first | decide | omega)) (by rfl) D_need_setting.m D_need_setting.F.kp D_need_setting.b .nil pass0 (pa_cons (pv 0) pa_nil)))
  (pss_cons (ps_expr (pe_call G_need_guesser (hr.mono (by first | decide | omega)) (by rfl) D_need_guesser.m D_need_guesser.F.kp D_need_guesser.b .nil pass0 (pa_cons (pv 1) pa_nil)))
  (pss_one (ps_expr (pe_call G_need_row (hr.mono (by first | decide | omega)) (by rfl) D_need_row.m D_need_row.F.kp D_need_row.b .nil pass0 (pa_cons (pe_callB call_len_seq (by rfl) T.n_len (by decide +kernel) (pa_cons (pe_ix ix_tup (pv 0) pe_int (fun _ _ => rfl)) pa_nil)) (pa_cons (pv 2) pa_nil))))))), ?_⟩
  and_intros
  refine ⟨b, s, rfl, hS, gS, fun H1 s1 => ?_⟩
  and_intros
  refine ⟨v, g, rfl, hG.same s1, hg, fun H2 s2 => ?_⟩
  obtain ⟨m, m1, m2⟩ := hS.imm (Imm.same (s1.trans s2))
  and_intros
  refine ⟨a, as, _, ds, rfl, same_l (s1.trans s2) hs, pd.imm (Imm.same (s1.trans s2)), by rw [List.length_map]; exact hgd, hl, ?_⟩
  exact q _ (s1.trans s2)
end
end St

namespace St
open PySem PySem.Spec PyProof.Rows L2
/-! ### o.f = one of several: as it stands in a tuple of targets -/
def gFld (K : PySem.W.Frag) (ta : TE) (f : Str) : TG := fun v σ H Q => ta σ H fun x H1 => ∃ a C dx fs, x = .ref a ∧ H1 a = some (.ins C dx fs) ∧ Cls K C ∧ NoAttr K C f ∧ fs.length < 1000 ∧ Q σ (upd H1 a (.ins C dx (putF f v fs)))
theorem pg_fld {X : Cx} {o : Expr} {f : Str} {pos : Pos} {ta : TE} (ho : PE X o ta)
    (ha : ∀ v, assign (.Attribute o f pos) X.env v = (do
      let ov ← holding [v] (eval o X.env)
      standAt pos.atName
      holding [v, ov] (setAttr ov f v)
      release [v, ov] []) := by intro _; rfl) : PG X (.Attribute o f pos) (gFld X.K ta f) := by
  refine ⟨fun pins s σ H v u Q I r h => ?_⟩
  rw [ha]
  refine wpAny_bind (wpAny_holding (thn (ho.run pins s σ H _ I h) fun ov s1 ⟨x, H1, I1, r1, a, C, dx, fs, ex, ea, c, n, l, q⟩ => ?_))
  subst ex
  obtain rfl : ov = Value.ref a := r1
  refine wpAny_bind (wpAny_standAt (wpAny_bind (wpAny_holding (setattr_ok I1 ea c n l r fun s3 I3 => ?_))))
  exact wpAny_release ⟨σ, _, I3, q⟩
/-! ### dicts of numbers by numbers -/
def dki (l : List (Int × Int)) : List (Key × V) := l.map fun e => (Sum.inl e.1, V.int e.2)
def putI (l : List (Int × Int)) (k v : Int) : List (Int × Int) := if (l.any fun e => decide (e.1 = k)) = true then l.map (fun e => if e.1 = k then (e.1, v) else e) else l ++ [(k, v)]
theorem any_dki (k : Int) : ∀ l : List (Int × Int), ((dki l).any fun kv => decide (kv.1 = Sum.inl k)) = l.any fun e => decide (e.1 = k)
  | [] => rfl
  | (a, b) :: r => by
    show (decide ((Sum.inl a : Key) = Sum.inl k) || (dki r).any _) = (decide (a = k) || r.any _)
    rw [any_dki k r, key_ll, Bool.beq_eq_decide_eq]
theorem put_dki (l : List (Int × Int)) (k v : Int) : putK (dki l) (Sum.inl k : Key) (V.int v) = dki (putI l k v) := by
  unfold putK putI
  rw [any_dki]
  split
  · unfold dki
    rw [List.map_map, List.map_map]
    refine List.map_congr_left fun e _ => ?_
    show (if (Sum.inl e.1 : Key) = Sum.inl k then (Sum.inl e.1, V.int v) else (Sum.inl e.1, V.int e.2)) = _
    by_cases c : e.1 = k
    · rw [if_pos (congrArg Sum.inl c)]
      show _ = (fun e : Int × Int => ((Sum.inl e.1 : Key), V.int e.2)) (if e.1 = k then (e.1, v) else e)
      rw [if_pos c]
    · rw [if_neg (fun z => c (Sum.inl.inj z))]
      show _ = (fun e : Int × Int => ((Sum.inl e.1 : Key), V.int e.2)) (if e.1 = k then (e.1, v) else e)
      rw [if_neg c]
  · unfold dki
    rw [List.map_append]
    rfl
theorem drop_dki (l : List (Int × Int)) (k : Int) : dropK (dki l) (Sum.inl k : Key) = dki (l.filter fun e => decide (e.1 ≠ k)) := by
  unfold dropK dki
  rw [List.filter_map]
  congr 1
  refine List.filter_congr fun e _ => ?_
  show decide (¬ (Sum.inl e.1 : Key) = Sum.inl k) = decide (¬ e.1 = k)
  by_cases c : e.1 = k
  · simp [c]
  · have : ¬ (Sum.inl e.1 : Key) = Sum.inl k := fun z => c (Sum.inl.inj z)
    simp [c, this]
theorem val_dki (k : Int) : ∀ l : List (Int × Int), valV (dki l) (Sum.inl k : Key) = (l.lookup k).map V.int
  | [] => rfl
  | (a, b) :: r => by
    by_cases c : a = k
    · subst c
      show valV ((Sum.inl a, V.int b) :: dki r) _ = _
      rw [valV_pos rfl]
      simp [List.lookup]
    · show valV ((Sum.inl a, V.int b) :: dki r) _ = _
      rw [valV_neg (fun z => c (Sum.inl.inj z)), val_dki k r]
      have : (k == a) = false := beq_eq_false_iff_ne.mpr (Ne.symm c)
      simp [List.lookup, this]
theorem look_ks {k : Int} : ∀ {l : List (Int × Int)}, k ∈ ks l → ∃ v, l.lookup k = some v
  | [], h => nomatch h
  | (a, b) :: r, h => by
    by_cases c : k = a
    · subst c
      exact ⟨b, by simp [List.lookup]⟩
    · have : (k == a) = false := beq_eq_false_iff_ne.mpr c
      rcases List.mem_cons.mp h with h | h
      · exact absurd h c
      · obtain ⟨v, e⟩ := look_ks h
        exact ⟨v, by simp [List.lookup, this, e]⟩
theorem ks_putI {l : List (Int × Int)} {k v q : Int} : q ∈ ks (putI l k v) ↔ q ∈ ks l ∨ q = k := by
  unfold putI
  split
  · rename_i c
    have e : ks (l.map fun e => if e.1 = k then (e.1, v) else e) = ks l := by
      unfold ks
      rw [List.map_map]
      refine List.map_congr_left fun e _ => ?_
      show (if e.1 = k then (e.1, v) else e).1 = e.1
      split <;> rfl
    rw [e]
    obtain ⟨x, hx, ex⟩ := List.any_eq_true.mp c
    constructor
    · exact .inl
    · rintro (h | h)
      · exact h
      · exact List.mem_map.mpr ⟨x, hx, (of_decide_eq_true ex).trans h.symm⟩
  · simp [ks]
theorem ks_drop {l : List (Int × Int)} {k q : Int} : q ∈ ks (l.filter fun e => decide (e.1 ≠ k)) ↔ q ∈ ks l ∧ q ≠ k := by
  unfold ks
  constructor
  · intro h
    obtain ⟨x, hx, rfl⟩ := List.mem_map.mp h
    have := List.mem_filter.mp hx
    exact ⟨List.mem_map.mpr ⟨x, this.1, rfl⟩, of_decide_eq_true this.2⟩
  · rintro ⟨h, n⟩
    obtain ⟨x, hx, rfl⟩ := List.mem_map.mp h
    exact List.mem_map.mpr ⟨x, List.mem_filter.mpr ⟨hx, decide_eq_true n⟩, rfl⟩
theorem putI_len (l : List (Int × Int)) (k v : Int) : (putI l k v).length ≤ l.length + 1 := by
  unfold putI
  split
  · rw [List.length_map]; exact Nat.le_succ _
  · rw [List.length_append]; exact Nat.le_refl _
/-! ### a run as it stands in memory -/
structure Cfg where
  pl : Int
  rm : Int
  lt : Int
  ms : Int
  g : G
structure RunS where
  cells : List Int
  lies : List (Int × Int)
  answers : List Int
  rows : List (Int × Str × Int)
  st : RSt
def evS (turn : Int) (s : RunS) (e : Str × Int) : RunS :=
  { s with rows := s.rows ++ [(turn, e.1, e.2)], lies := if isOut e.1 then s.lies.filter (fun x => decide (x.1 ≠ e.2)) else if isIn e.1 then putI s.lies e.2 (s.cells.getD e.2.toNat 0) else s.lies }
def doD (d : Deed) (s : RunS) : RunS := match d.2 with
  | none => { s with answers := s.answers ++ [(s.lies.lookup d.1).getD 0] }
  | some v => { s with lies := putI s.lies d.1 v, cells := s.cells.set d.1.toNat v }
def goC (c : Cfg) (s : RSt) (p : Int) : RSt × Evs := goneP c.pl c.rm c.lt c.ms c.g s p
def deedS (c : Cfg) (turn : Int) (d : Deed) (s : RunS) : RunS := doD d ((goC c s.st d.1).2.foldl (evS turn) { s with st := (goC c s.st d.1).1 })
def rfs (h : Addr) (v : V) (c l a r st : Addr) : List (Str × V) := [("house", .ref h), ("guesser", v), ("cells", .ref c), ("lies", .ref l), ("answers", .ref a), ("rows", .ref r), ("state", .ref st)]
structure RunC (K : PySem.W.Frag) (C : Addr) : Prop where
  house : NoAttr K C "house"
  guesser : NoAttr K C "guesser"
  cells : NoAttr K C "cells"
  lies : NoAttr K C "lies"
  answers : NoAttr K C "answers"
  rows : NoAttr K C "rows"
  state : NoAttr K C "state"
def PrR (K : PySem.W.Frag) (H : Hp) (as : List Addr) (rs : List (Int × Str × Int)) : Prop := Paired (fun (p : Addr) (e : Int × Str × Int) => SqT K H p [.int e.1, .str e.2.1, .int e.2.2]) as rs
theorem PrR.imm {K : PySem.W.Frag} {H H' : Hp} {as : List Addr} {rs : List (Int × Str × Int)} (h : PrR K H as rs) (e : Imm H H') : PrR K H' as rs := Paired.mapP h fun _ _ z => e.t z
def IsRs (K : PySem.W.Frag) (H : Hp) (a : Addr) (rs : List (Int × Str × Int)) : Prop := ∃ as : List Addr, H a = some (.lst (as.map V.ref)) ∧ PrR K H as rs
structure RunO (K : PySem.W.Frag) (CR CH : Addr) (c : Cfg) (H0 H : Hp) (r dx h : Addr) (v : V) (cA lA aA rA st : Addr) (s : RunS) : Prop where
  ob : H r = some (.ins CR dx (rfs h v cA lA aA rA st))
  s0 : Same H0 H
  n0 : H0 r = none
  nc : H0 cA = none
  nl : H0 lA = none
  na : H0 aA = none
  nr : H0 rA = none
  ca : cA ≠ aA
  cr : cA ≠ rA
  ar : aA ≠ rA
  hr : h ≠ r
  hh : IsH CH H h c.pl c.rm c.lt c.ms
  hg : IsG K H c.g v
  hc : H cA = some (.lst (s.cells.map V.int))
  hl : H lA = some (.dK (dki s.lies))
  ha : H aA = some (.lst (s.answers.map V.int))
  hrr : IsRs K H rA s.rows
  hst : IsSt K H st s.st
theorem Imm.updN {H : Hp} {x : Addr} {o u : HO} (h : H x = some o) (h1 : ∀ xs, o ≠ .tup xs) (h2 : ∀ a b, o ≠ .frz a b) : Imm H (L2.upd H x u) :=
  ⟨fun b xs e => by rw [upd_ne (fun z => by subst z; rw [h] at e; exact h1 xs (Option.some.inj e))]; exact e, fun b a t _ e => by rw [upd_ne (fun z => by subst z; rw [h] at e; exact h2 a t (Option.some.inj e))]; exact e⟩
section
variable {K : PySem.W.Frag} {CR CH : Addr} {c : Cfg} {H0 H : Hp} {r dx h : Addr} {v : V} {cA lA aA rA st : Addr} {s : RunS}
theorem RunO.same {H' : Hp} (o : RunO K CR CH c H0 H r dx h v cA lA aA rA st s) (e : Same H H') : RunO K CR CH c H0 H' r dx h v cA lA aA rA st s := by
  obtain ⟨as, r1, r2⟩ := o.hrr
  exact ⟨e _ _ o.ob, o.s0.trans e, o.n0, o.nc, o.nl, o.na, o.nr, o.ca, o.cr, o.ar, o.hr, o.hh.same e, o.hg.same e, e _ _ o.hc, e _ _ o.hl, e _ _ o.ha, ⟨as, e _ _ r1, r2.imm (Imm.same e)⟩, o.hst.imm (Imm.same e)⟩
theorem RunO.neq (o : RunO K CR CH c H0 H r dx h v cA lA aA rA st s) : (r ≠ cA ∧ r ≠ lA ∧ r ≠ aA ∧ r ≠ rA) ∧ (h ≠ cA ∧ h ≠ lA ∧ h ≠ aA ∧ h ≠ rA) ∧ (lA ≠ cA ∧ lA ≠ aA ∧ lA ≠ rA) := by
  obtain ⟨as, r1, r2⟩ := o.hrr
  obtain ⟨dh, hh⟩ := o.hh
  refine ⟨⟨ne_of o.ob o.hc (by intro z; cases z), ne_of o.ob o.hl (by intro z; cases z), ne_of o.ob o.ha (by intro z; cases z), ne_of o.ob r1 (by intro z; cases z)⟩, ⟨ne_of hh o.hc (by intro z; cases z), ne_of hh o.hl (by intro z; cases z), ne_of hh o.ha (by intro z; cases z), ne_of hh r1 (by intro z; cases z)⟩, ⟨ne_of o.hl o.hc (by intro z; cases z), ne_of o.hl o.ha (by intro z; cases z), ne_of o.hl r1 (by intro z; cases z)⟩⟩
/-- one more row -/
theorem RunO.row {as : List Addr} {p : Addr} {t q : Int} {x : Str} (o : RunO K CR CH c H0 H r dx h v cA lA aA rA st s) (h1 : H rA = some (.lst (as.map V.ref))) (h2 : PrR K H as s.rows) (hp : SqT K H p [.int t, .str x, .int q]) :
    RunO K CR CH c H0 (upd H rA (.lst (as.map V.ref ++ [.ref p]))) r dx h v cA lA aA rA st { s with rows := s.rows ++ [(t, x, q)] } := by
  obtain ⟨⟨n1, n2, n3, n4⟩, ⟨m1, m2, m3, m4⟩, ⟨k1, k2, k3⟩⟩ := o.neq
  have im : Imm H (upd H rA (.lst (as.map V.ref ++ [.ref p]))) := Imm.upd ⟨_, h1⟩
  obtain ⟨dh, hh⟩ := o.hh
  exact ⟨by rw [upd_ne n4]; exact o.ob, same_mut o.s0 o.nr, o.n0, o.nc, o.nl, o.na, o.nr, o.ca, o.cr, o.ar, o.hr, ⟨dh, by rw [upd_ne m4]; exact hh⟩, o.hg.imm im, by rw [upd_ne o.cr]; exact o.hc, by rw [upd_ne k3]; exact o.hl, by rw [upd_ne o.ar]; exact o.ha,
    ⟨as ++ [p], by rw [upd_same, List.map_append]; rfl, Paired.snoc (h2.imm im) (im.t hp)⟩, o.hst.imm im⟩
theorem RunO.lie (o : RunO K CR CH c H0 H r dx h v cA lA aA rA st s) (l : List (Int × Int)) : RunO K CR CH c H0 (upd H lA (.dK (dki l))) r dx h v cA lA aA rA st { s with lies := l } := by
  obtain ⟨⟨n1, n2, n3, n4⟩, ⟨m1, m2, m3, m4⟩, ⟨k1, k2, k3⟩⟩ := o.neq
  have im : Imm H (upd H lA (.dK (dki l))) := Imm.updN o.hl (by intro _ z; cases z) (by intro _ _ z; cases z)
  obtain ⟨dh, hh⟩ := o.hh
  obtain ⟨as, r1, r2⟩ := o.hrr
  exact ⟨by rw [upd_ne n2]; exact o.ob, same_mut o.s0 o.nl, o.n0, o.nc, o.nl, o.na, o.nr, o.ca, o.cr, o.ar, o.hr, ⟨dh, by rw [upd_ne m2]; exact hh⟩, o.hg.imm im, by rw [upd_ne k1.symm]; exact o.hc, upd_same, by rw [upd_ne k2.symm]; exact o.ha,
    ⟨as, by rw [upd_ne k3.symm]; exact r1, r2.imm im⟩, o.hst.imm im⟩
theorem RunO.ans (o : RunO K CR CH c H0 H r dx h v cA lA aA rA st s) (l : List Int) : RunO K CR CH c H0 (upd H aA (.lst (l.map V.int))) r dx h v cA lA aA rA st { s with answers := l } := by
  obtain ⟨⟨n1, n2, n3, n4⟩, ⟨m1, m2, m3, m4⟩, ⟨k1, k2, k3⟩⟩ := o.neq
  have im : Imm H (upd H aA (.lst (l.map V.int))) := Imm.upd ⟨_, o.ha⟩
  obtain ⟨dh, hh⟩ := o.hh
  obtain ⟨as, r1, r2⟩ := o.hrr
  exact ⟨by rw [upd_ne n3]; exact o.ob, same_mut o.s0 o.na, o.n0, o.nc, o.nl, o.na, o.nr, o.ca, o.cr, o.ar, o.hr, ⟨dh, by rw [upd_ne m3]; exact hh⟩, o.hg.imm im, by rw [upd_ne o.ca]; exact o.hc, by rw [upd_ne k2]; exact o.hl, upd_same,
    ⟨as, by rw [upd_ne o.ar.symm]; exact r1, r2.imm im⟩, o.hst.imm im⟩
theorem RunO.cell (o : RunO K CR CH c H0 H r dx h v cA lA aA rA st s) (l : List Int) : RunO K CR CH c H0 (upd H cA (.lst (l.map V.int))) r dx h v cA lA aA rA st { s with cells := l } := by
  obtain ⟨⟨n1, n2, n3, n4⟩, ⟨m1, m2, m3, m4⟩, ⟨k1, k2, k3⟩⟩ := o.neq
  have im : Imm H (upd H cA (.lst (l.map V.int))) := Imm.upd ⟨_, o.hc⟩
  obtain ⟨dh, hh⟩ := o.hh
  obtain ⟨as, r1, r2⟩ := o.hrr
  exact ⟨by rw [upd_ne n1]; exact o.ob, same_mut o.s0 o.nc, o.n0, o.nc, o.nl, o.na, o.nr, o.ca, o.cr, o.ar, o.hr, ⟨dh, by rw [upd_ne m1]; exact hh⟩, o.hg.imm im, upd_same, by rw [upd_ne k1]; exact o.hl, by rw [upd_ne o.ca.symm]; exact o.ha,
    ⟨as, by rw [upd_ne o.cr.symm]; exact r1, r2.imm im⟩, o.hst.imm im⟩
theorem RunO.stt {st' : Addr} {u : RSt} (o : RunO K CR CH c H0 H r dx h v cA lA aA rA st s) (hu : IsSt K H st' u) : RunO K CR CH c H0 (upd H r (.ins CR dx (rfs h v cA lA aA rA st'))) r dx h v cA lA aA rA st' { s with st := u } := by
  obtain ⟨⟨n1, n2, n3, n4⟩, ⟨m1, m2, m3, m4⟩, ⟨k1, k2, k3⟩⟩ := o.neq
  have im : Imm H (upd H r (.ins CR dx (rfs h v cA lA aA rA st'))) := Imm.updN o.ob (by intro _ z; cases z) (by intro _ _ z; cases z)
  obtain ⟨dh, hh⟩ := o.hh
  obtain ⟨as, r1, r2⟩ := o.hrr
  exact ⟨upd_same, same_mut o.s0 o.n0, o.n0, o.nc, o.nl, o.na, o.nr, o.ca, o.cr, o.ar, o.hr, ⟨dh, by rw [upd_ne o.hr]; exact hh⟩, o.hg.imm im, by rw [upd_ne n1.symm]; exact o.hc, by rw [upd_ne n2.symm]; exact o.hl, by rw [upd_ne n3.symm]; exact o.ha,
    ⟨as, by rw [upd_ne n4.symm]; exact r1, r2.imm im⟩, hu.imm im⟩
end
end St

namespace St
open PySem PySem.Spec PyProof.Rows L2
abbrev s_Run_do_deed : Stmt := inClass (topS 38) 1
abbrev N_Run_do_deed : List Str := ["self", "turn", "deed", "events", "word", "place"]
abbrev p_Run_do_deed : List Str := ["self", "turn", "deed"]
theorem sc_Run_do_deed : FnScope N_Run_do_deed p_Run_do_deed (defScope s_Run_do_deed) := ⟨rfl, rfl, rfl, by decide +kernel, rfl, by decide +kernel, by decide +kernel⟩
structure Cfg.Ok (c : Cfg) : Prop where
  g : good 3 c.g = true
  r1 : 1 ≤ c.rm
  r2 : c.rm ≤ 8
  m2 : c.ms ≤ 4
structure InvD (c : Cfg) (n : Nat) (s : RunS) : Prop where
  ce : ((s.cells.length : Nat) : Int) = c.pl
  ke : ∀ q, q ∈ ks s.lies ↔ q ∈ ks s.st.1
  iv : InvS c.pl c.rm c.ms s.st.1 s.st.2.1
  ft : Fit c.g s.st.2.2
  ok : okS n s.st.2.2
  ll : s.lies.length ≤ 40 * n
  rl : s.rows.length ≤ 40 * n
  al : s.answers.length ≤ n
theorem gone_len {c : Cfg} (ok : c.Ok) {n : Nat} {s : RSt} {p : Int} (l2 : ((s.2.1.length : Nat) : Int) ≤ c.ms) (ft : Fit c.g s.2.2) (ok2 : okS n s.2.2) : (goC c s p).2.length ≤ 34 := by
  obtain ⟨sh, wy, kn⟩ := s
  have l2 : ((wy.length : Nat) : Int) ≤ c.ms := l2
  have m2 := ok.m2
  have cl := comeP_len c.rm sh wy wy.length
  rw [List.take_length] at cl
  have cl3 : (comeP c.rm sh wy).2.2.length ≤ 2 * wy.length := cl.2.2
  have al := (askedP_len c.rm (comeP c.rm sh wy).1 (comeP c.rm sh wy).2.1 p).2.2
  have sl := startedP_len c.pl c.lt c.ms (askedP c.rm (comeP c.rm sh wy).1 (comeP c.rm sh wy).2.1 p).1 (askedP c.rm (comeP c.rm sh wy).1 (comeP c.rm sh wy).2.1 p).2.1 (stepG c.g kn p).2 (stepG c.g kn p).2.length
  rw [List.take_length] at sl
  have gl := stepG_len (p := p) ok.g ft ok2
  have sl2 : (startedP c.pl c.lt c.ms (askedP c.rm (comeP c.rm sh wy).1 (comeP c.rm sh wy).2.1 p).1 (askedP c.rm (comeP c.rm sh wy).1 (comeP c.rm sh wy).2.1 p).2.1 (stepG c.g kn p).2).2.length ≤ (stepG c.g kn p).2.length := sl.2
  show List.length (α := Str × Int) (_ ++ _ ++ _) ≤ 34
  rw [List.length_append, List.length_append]
  have gl' : (stepG c.g kn p).2.length ≤ 24 := gl
  dsimp only
  omega
theorem inV_2 (w a b : Str) : inV (.str w) [.str a, .str b] = decide (w = a ∨ w = b) := by
  show ((a == w) || ((b == w) || false)) = _
  by_cases c1 : w = a
  · subst c1; simp
  · by_cases c2 : w = b
    · subst c2; simp
    · have e1 : (a == w) = false := beq_eq_false_iff_ne.mpr (Ne.symm c1)
      have e2 : (b == w) = false := beq_eq_false_iff_ne.mpr (Ne.symm c2)
      simp [e1, e2, c1, c2]
theorem inV_3 (w a b c : Str) : inV (.str w) [.str a, .str b, .str c] = decide (w = a ∨ w = b ∨ w = c) := by
  show ((a == w) || ((b == w) || ((c == w) || false))) = _
  by_cases c1 : w = a
  · subst c1; simp
  · by_cases c2 : w = b
    · subst c2; simp
    · by_cases c3 : w = c
      · subst c3; simp
      · have e1 : (a == w) = false := beq_eq_false_iff_ne.mpr (Ne.symm c1)
        have e2 : (b == w) = false := beq_eq_false_iff_ne.mpr (Ne.symm c2)
        have e3 : (c == w) = false := beq_eq_false_iff_ne.mpr (Ne.symm c3)
        simp [e1, e2, e3, c1, c2, c3]
theorem isOut_notIn {w : Str} (h : isOut w) : ¬ isIn w := by
  rcases h with rfl | rfl <;> decide
/-- the lies as the events go on -/
theorem ev_step {pl : Int} {A B : Int → Prop} {turn : Int} {s : RunS} {w : Str} {p : Int} {es : Evs} (h : ∀ q, q ∈ ks s.lies ↔ A q) (hc : Ch pl A ((w, p) :: es) B) :
    (0 ≤ p ∧ p < pl) ∧ (isOut w → p ∈ ks s.lies) ∧ ∃ A', (∀ q, q ∈ ks (evS turn s (w, p)).lies ↔ A' q) ∧ Ch pl A' es B := by
  obtain ⟨hp, h2⟩ := hc
  refine ⟨hp, ?_, ?_⟩
  · intro o
    rw [if_pos o] at h2
    exact (h p).mpr h2.1
  · by_cases c1 : isOut w
    · rw [if_pos c1] at h2
      refine ⟨_, fun q => ?_, h2.2⟩
      have e : (evS turn s (w, p)).lies = s.lies.filter (fun x => decide (x.1 ≠ p)) := if_pos c1
      rw [e, ks_drop, h]
    · rw [if_neg c1] at h2
      by_cases c2 : isIn w
      · rw [if_pos c2] at h2
        refine ⟨_, fun q => ?_, h2⟩
        have e : (evS turn s (w, p)).lies = putI s.lies p (s.cells.getD p.toNat 0) := (if_neg c1).trans (if_pos c2)
        rw [e, ks_putI, h]
      · rw [if_neg c2] at h2
        refine ⟨A, fun q => ?_, h2⟩
        have e : (evS turn s (w, p)).lies = s.lies := (if_neg c1).trans (if_neg c2)
        rw [e, h]
theorem evS_len (turn : Int) (s : RunS) (e : Str × Int) : (evS turn s e).lies.length ≤ s.lies.length + 1 ∧ (evS turn s e).rows.length = s.rows.length + 1 := by
  refine ⟨?_, List.length_append⟩
  unfold evS
  show (if isOut e.1 then _ else if isIn e.1 then _ else _ : List (Int × Int)).length ≤ _
  split
  · exact Nat.le_succ_of_le (List.length_filter_le _ _)
  · split
    · exact putI_len _ _ _
    · exact Nat.le_succ _
theorem evs_run {pl : Int} {B : Int → Prop} {turn : Int} : ∀ {es : Evs} {A : Int → Prop} {s : RunS}, (∀ q, q ∈ ks s.lies ↔ A q) → Ch pl A es B →
    (∀ q, q ∈ ks (es.foldl (evS turn) s).lies ↔ B q) ∧ (es.foldl (evS turn) s).lies.length ≤ s.lies.length + es.length ∧ (es.foldl (evS turn) s).rows.length = s.rows.length + es.length ∧ (es.foldl (evS turn) s).cells = s.cells ∧ (es.foldl (evS turn) s).answers = s.answers ∧ (es.foldl (evS turn) s).st = s.st
  | [], A, s, h, hc => ⟨fun q => (h q).trans (hc q), Nat.le_refl _, rfl, rfl, rfl, rfl⟩
  | (w, p) :: es, A, s, h, hc => by
    obtain ⟨_, _, A', h', hc'⟩ := ev_step (turn := turn) h hc
    obtain ⟨i1, i2, i3, i4, i5, i6⟩ := evs_run (turn := turn) h' hc'
    have l := evS_len turn s (w, p)
    refine ⟨i1, ?_, ?_, i4, i5, i6⟩
    · show _ ≤ s.lies.length + (es.length + 1)
      have : ((w, p) :: es).foldl (evS turn) s = es.foldl (evS turn) (evS turn s (w, p)) := rfl
      rw [this]
      omega
    · show _ = s.rows.length + (es.length + 1)
      have : ((w, p) :: es).foldl (evS turn) s = es.foldl (evS turn) (evS turn s (w, p)) := rfl
      rw [this]
      omega
theorem evs_pre {pl : Int} {A B : Int → Prop} {turn : Int} {es : Evs} {s : RunS} (h : ∀ q, q ∈ ks s.lies ↔ A q) (hc : Ch pl A es B) : ∀ i, i ≤ es.length →
    ∃ A', (∀ q, q ∈ ks ((es.take i).foldl (evS turn) s).lies ↔ A' q) ∧ Ch pl A' (es.drop i) B ∧ ((es.take i).foldl (evS turn) s).lies.length ≤ s.lies.length + i ∧ ((es.take i).foldl (evS turn) s).rows.length = s.rows.length + i ∧ ((es.take i).foldl (evS turn) s).cells = s.cells
  | 0, _ => ⟨A, by rw [List.take_zero]; exact h, by rw [List.drop_zero]; exact hc, Nat.le_refl _, rfl, rfl⟩
  | i + 1, hi => by
    obtain ⟨A', h1, h2, h3, h4, h5⟩ := evs_pre h hc i (by omega)
    have hi' : i < es.length := hi
    rw [List.drop_eq_getElem_cons hi'] at h2
    have tk : es.take (i + 1) = es.take i ++ [es[i]] := by rw [List.take_add_one, List.getElem?_eq_getElem hi']; rfl
    rw [tk, List.foldl_append]
    show ∃ A' : Int → Prop, (∀ q, q ∈ ks (evS turn ((es.take i).foldl (evS turn) s) es[i]).lies ↔ A' q) ∧ _ ∧ (evS turn ((es.take i).foldl (evS turn) s) es[i]).lies.length ≤ _ ∧ (evS turn ((es.take i).foldl (evS turn) s) es[i]).rows.length = _ ∧ (evS turn ((es.take i).foldl (evS turn) s) es[i]).cells = _
    generalize (es.take i).foldl (evS turn) s = t at h1 h3 h4 h5
    generalize es[i] = e at h2
    obtain ⟨w, p⟩ := e
    obtain ⟨_, _, A2, j1, j2⟩ := ev_step (turn := turn) h1 h2
    have l := evS_len turn t (w, p)
    exact ⟨A2, j1, j2, by omega, by omega, h5⟩
theorem deed_sq {K : PySem.W.Frag} {H : Hp} {a : Addr} : ∀ {d : Deed}, IsDeed K H a d → ∃ w rest, SqT K H a (.str w :: .int d.1 :: rest) ∧ ((w = ("read" : Str) ∧ d.2 = none) ∨ (w ≠ ("read" : Str) ∧ ∃ v, d.2 = some v ∧ rest = [.int v]))
  | (p, none), h => ⟨"read", [], h, .inl ⟨rfl, rfl⟩⟩
  | (p, some v), h => ⟨"write", [.int v], h, .inr ⟨by decide, v, rfl, rfl⟩⟩
theorem Deed.pl {pl : Int} {d : Deed} (h : Deed.Good pl d) : 0 ≤ d.1 ∧ d.1 < pl := by
  obtain ⟨p, v⟩ := d
  cases v with
  | none => exact h
  | some v => exact h.1
theorem deed_inv {c : Cfg} (ok : c.Ok) {n : Nat} {s : RunS} {turn : Int} {d : Deed} (I : InvD c n s) (hd : Deed.Good c.pl d) :
    InvD c (n + 1) (deedS c turn d s) := by
  have hp := Deed.pl hd
  obtain ⟨g1, g2, g3⟩ := gone_inv (lt := c.lt) (g := c.g) (s := s.st) ok.r1 I.iv hp
  have gl := gone_len (p := d.1) ok I.iv.l2 I.ft I.ok
  have kp := stepG_keeps (p := d.1) ok.g I.ft I.ok
  obtain ⟨e1, e2, e3, e4, e5, e6⟩ := evs_run (turn := turn) (s := { s with st := (goC c s.st d.1).1 }) (es := (goC c s.st d.1).2) I.ke g2
  have ft' : Fit c.g (goC c s.st d.1).1.2.2 := kp.1
  have ok' : okS (n + 1) (goC c s.st d.1).1.2.2 := kp.2
  unfold deedS
  generalize (goC c s.st d.1).2.foldl (evS turn) { s with st := (goC c s.st d.1).1 } = t at e1 e2 e3 e4 e5 e6
  have ll := I.ll
  have rl := I.rl
  have al := I.al
  have e2 : t.lies.length ≤ s.lies.length + (goC c s.st d.1).2.length := e2
  have e3 : t.rows.length = s.rows.length + (goC c s.st d.1).2.length := e3
  have e4 : t.cells = s.cells := e4
  have e5 : t.answers = s.answers := e5
  have e6 : t.st = (goC c s.st d.1).1 := e6
  obtain ⟨p, v⟩ := d
  cases v with
  | none =>
    refine ⟨by show ((t.cells.length : Nat) : Int) = _; rw [e4]; exact I.ce, fun q => ?_, ?_, ?_, ?_, ?_, ?_, ?_⟩
    · show q ∈ ks t.lies ↔ q ∈ ks t.st.1
      rw [e6]
      exact e1 q
    · show InvS _ _ _ t.st.1 t.st.2.1
      rw [e6]
      exact g1
    · show Fit _ t.st.2.2
      rw [e6]
      exact ft'
    · show okS _ t.st.2.2
      rw [e6]
      exact ok'
    · show t.lies.length ≤ _
      omega
    · show t.rows.length ≤ _
      omega
    · show (t.answers ++ [_]).length ≤ _
      rw [List.length_append, e5]
      exact Nat.succ_le_succ al
  | some v =>
    have hpk : p ∈ ks t.lies := (e1 p).mpr g3
    refine ⟨by show (((t.cells.set _ _).length : Nat) : Int) = _; rw [List.length_set, e4]; exact I.ce, fun q => ?_, ?_, ?_, ?_, ?_, ?_, ?_⟩
    · show q ∈ ks (putI t.lies p v) ↔ q ∈ ks t.st.1
      rw [ks_putI, e6]
      constructor
      · rintro (h | h)
        · exact (e1 q).mp h
        · rw [h]; exact g3
      · intro h
        exact .inl ((e1 q).mpr h)
    · show InvS _ _ _ t.st.1 t.st.2.1
      rw [e6]
      exact g1
    · show Fit _ t.st.2.2
      rw [e6]
      exact ft'
    · show okS _ t.st.2.2
      rw [e6]
      exact ok'
    · show (putI t.lies p v).length ≤ _
      have := putI_len t.lies p v
      omega
    · show t.rows.length ≤ _
      omega
    · have z : t.answers.length ≤ n := by rw [e5]; exact al
      exact Nat.le_succ_of_le z
section
variable {P : Program} {w : World} {K : PySem.W.Frag} {mg : Str → Option Value} {base : Heap} {f fI fN f1 f2 f3 f4 f5 f6 f7 f8 C CR : Addr} {fd fd1 fd2 fd3 fd4 fd5 fd6 fd7 fd8 : FuncData}
def spDo (K : PySem.W.Frag) (CR C : Addr) : Sp := fun vs H Q _ => ∃ (r da dx h : Addr) (v : V) (cA lA aA rA st : Addr) (turn : Int) (c : Cfg) (H0 : Hp) (s : RunS) (d : Deed) (n : Nat), vs = [.ref r, .int turn, .ref da] ∧ RunO K CR C c H0 H r dx h v cA lA aA rA st s ∧ IsDeed K H da d ∧ Deed.Good c.pl d ∧ c.Ok ∧ InvD c n s ∧ n ≤ 100 ∧
  ∀ st' H', Imm H H' → RunO K CR C c H0 H' r dx h v cA lA aA rA st' (deedS c turn d s) → Q .non H'
theorem ok_Run_do_deed (T : Nms mg) (HC : HouseC K C) (KC_Run : ClassD K mg "Run" CR fI) (RC : RunC K CR) (D_laid : Df K mg "laid" s_laid p_laid f1 fd1) (D_come : Df K mg "come" s_come p_come f2 fd2) (D_asked : Df K mg "asked" s_asked p_asked f3 fd3) (D_started : Df K mg "started" s_started p_started f4 fd4)
    (D_strided : Df K mg "strided" s_strided p_strided f5 fd5) (D_paired : Df K mg "paired" s_paired p_paired f6 fd6) (D_stepped : Df K mg "stepped" s_stepped p_stepped f7 fd7) (D_gone_on : Df K mg "gone_on" s_gone_on p_gone_on f8 fd8)
    (F : Fun K "do_deed" "Run.do_deed" s_Run_do_deed f fd) : FnOk P w K mg base CX0 7 f fd p_Run_do_deed (spDo K CR C) := by
  have G_gone_on : FnOk P w K mg base CX0 6 f8 fd8 p_gone_on (spGone K C) := ok_gone_on T HC D_laid D_come D_asked D_started D_strided D_paired D_stepped D_gone_on.F
  refine F.ok sc_Run_do_deed (fun vs H Q E h => ?_) (fun cdv A outer s H vs Q E hr h => ?_)
  · obtain ⟨r, da, dx, h, v, cA, lA, aA, rA, st, turn, c, H0, s, d, n, rfl, _⟩ := h
    rfl
  obtain ⟨r, da, dx, h, v, cA, lA, aA, rA, st, turn, c, H0, s, d, n, rfl, o, hd, gd, ok, I, hn, q⟩ := h
  refine ⟨_, (pss_cons (ps_asg (pe_call G_gone_on (hr.mono (by first | decide | omega)) (by rfl) D_gone_on.m D_gone_on.F.kp D_gone_on.b .nil pass0 (pa_cons (pe_fld (pv 0) rfl) (pa_cons (pe_fld (pv 0) rfl) (pa_cons (pe_fld (pv 0) rfl) (pa_cons (pe_ix ix_tup (pv 2) pe_int (fun _ _ => rfl)) pa_nil))))) (pg_tup rfl (pgs_cons (pg_fld (pv 0)) (pgs_cons (pg_name (i := 3) sc_Run_do_deed.nd rfl (Or.inl rfl)) pgs_nil))))
  (pss_cons (ps_for PassesOwn.never rfl (pi_list (pv 3)) (pg_tup rfl (pgs_cons (pg_name (i := 4) sc_Run_do_deed.nd rfl (Or.inl rfl)) (pgs_cons (pg_name (i := 5) sc_Run_do_deed.nd rfl (Or.inl rfl)) pgs_nil)))
    (pss_cons (ps_expr (pe_bm PySem.F.plainAttrs_list PySem.F.slot_list_append PySem.F.type_list_append mt_append (pe_fld (pv 0) rfl) (pa_cons (pe_tup (pa_cons (pv 1) (pa_cons (pv 4) (pa_cons (pv 5) pa_nil)))) pa_nil)))
    (pss_one (ps_if (pt_cmpR op_in_seq (pv 4) (pe_tup (pa_cons pe_str (pa_cons pe_str pa_nil))) (by with_unfolding_all rfl))
      (pss_one (ps_expr (pe_dpop1 (pe_fld (pv 0) rfl) (pv 5) ⟨rfl, rfl, rfl, rfl⟩)))
      (pss_one (ps_if (pt_cmpR op_in_seq (pv 4) (pe_tup (pa_cons pe_str (pa_cons pe_str (pa_cons pe_str pa_nil)))) (by with_unfolding_all rfl))
        (pss_one (ps_dput (hu_of hr) (pe_fld (pv 0) rfl) (pv 5) (pe_ix ix_list (pe_fld (pv 0) rfl) (pv 5) (fun _ _ => rfl)) rfl))
        (pss_nil)))))))
  (pss_one (ps_if (pt_cmpR op_eq (pe_ix ix_tup (pv 2) pe_int (fun _ _ => rfl)) pe_str (nomark _))
    (pss_one (ps_expr (pe_bm PySem.F.plainAttrs_list PySem.F.slot_list_append PySem.F.type_list_append mt_append (pe_fld (pv 0) rfl) (pa_cons (pe_dget (hu_of hr) (pe_fld (pv 0) rfl) (pe_ix ix_tup (pv 2) pe_int (fun _ _ => rfl)) (fun _ _ => rfl)) pa_nil))))
    (pss_cons (ps_dput (hu_of hr) (pe_fld (pv 0) rfl) (pe_ix ix_tup (pv 2) pe_int (fun _ _ => rfl)) (pe_ix ix_tup (pv 2) pe_int (fun _ _ => rfl)) rfl)
    (pss_one (ps_asg (pe_ix ix_tup (pv 2) pe_int (fun _ _ => rfl)) (pg_sub (pe_fld (pv 0) rfl) (pe_ix ix_tup (pv 2) pe_int (fun _ _ => rfl)) set_list)))))))), ?_⟩
  refine ⟨_, rfl, r, CR, dx, _, _, rfl, o.ob, KC_Run.cl, RC.house, rfl, ?_⟩
  refine ⟨_, rfl, r, CR, dx, _, _, rfl, o.ob, KC_Run.cl, RC.guesser, rfl, ?_⟩
  refine ⟨_, rfl, r, CR, dx, _, _, rfl, o.ob, KC_Run.cl, RC.state, rfl, ?_⟩
  obtain ⟨w, rest, hsq, hw⟩ := deed_sq hd
  and_intros
  have wl : s.st.2.1.length ≤ 100 := by
    have := I.iv.l2
    have := ok.m2
    omega
  have sl : s.st.1.length ≤ 100 := by
    have := I.iv.l1
    have := ok.r2
    omega
  refine ⟨h, st, v, c.g, c.pl, c.rm, c.lt, c.ms, d.1, s.st, n, rfl, o.hh, o.hg, ok.g, o.hst, I.ft, I.ok, by omega, ok.r1, sl, wl, fun q1 st' ev H1 s1 nev e1 i1 i2 => ?_⟩
  have o1 := o.same s1
  have hsq1 := same_t s1 hsq
  refine ⟨q1, _, rfl, sqt e1, rfl, _, _, rfl, ?_⟩
  refine ⟨_, rfl, r, CR, dx, _, rfl, o1.ob, KC_Run.cl, RC.state, (by show 7 < 1000; decide), _, _, rfl, rfl, ?_⟩
  have o2 : RunO K CR C c H0 (upd H1 r (.ins CR dx (putF "state" (V.ref st') (rfs h v cA lA aA rA st)))) r dx h v cA lA aA rA st' { s with st := (goC c s.st d.1).1 } := o1.stt i1
  have im2 : Imm H1 (upd H1 r (.ins CR dx (putF "state" (V.ref st') (rfs h v cA lA aA rA st)))) := Imm.updN o1.ob (by intro _ z; cases z) (by intro _ _ z; cases z)
  obtain ⟨eas, v1, v2⟩ := i2
  have v1' : (upd H1 r (.ins CR dx (putF "state" (V.ref st') (rfs h v cA lA aA rA st)))) ev = some (.lst (eas.map V.ref)) := by
    rw [upd_ne (ne_of_none (o.ob) nev).symm]
    exact v1
  have hsq2 := im2.t hsq1
  have v2' := v2.imm im2
  have imA : Imm H (upd H1 r (.ins CR dx (putF "state" (V.ref st') (rfs h v cA lA aA rA st)))) := (Imm.same s1).trans im2
  obtain ⟨as0, rr1, rr2⟩ := o.hrr
  have evr : ev ≠ rA := (ne_of_none rr1 nev).symm
  have evl : ev ≠ lA := (ne_of_none o.hl nev).symm
  generalize upd H1 r (.ins CR dx (putF "state" (V.ref st') (rfs h v cA lA aA rA st))) = H2 at o2 imA v1' hsq2 v2' ⊢
  clear im2 v1 v2 o1 hsq1 rr1 rr2
  have gl := gone_len (p := d.1) ok I.iv.l2 I.ft I.ok
  obtain ⟨gi1, gi2, gi3⟩ := gone_inv (lt := c.lt) (g := c.g) (s := s.st) ok.r1 I.iv (Deed.pl gd)
  have pre := evs_pre (turn := turn) (s := { s with st := (goC c s.st d.1).1 }) (es := (goC c s.st d.1).2) I.ke gi2
  have hle : eas.length = (goC c s.st d.1).2.length := Paired.length v2'
  have v2' : PrE K H2 eas (goC c s.st d.1).2 := v2'
  have q' : ∀ st' H', Imm H H' → RunO K CR C c H0 H' r dx h v cA lA aA rA st' (doD d ((goC c s.st d.1).2.foldl (evS turn) { s with st := (goC c s.st d.1).1 })) → Q .non H' := q
  have gi2' : Ch c.pl (· ∈ ks s.st.1) (goC c s.st d.1).2 (· ∈ ks (goC c s.st d.1).1.1) := gi2
  have gi3' : d.1 ∈ ks (goC c s.st d.1).1.1 := gi3
  have run := evs_run (turn := turn) (s := { s with st := (goC c s.st d.1).1 }) I.ke gi2'
  generalize (goC c s.st d.1).2 = es at pre v2' gl hle q' run gi2'
  generalize hs1 : ({ s with st := (goC c s.st d.1).1 } : RunS) = s1 at o2 pre q' run
  have ll1 : s1.lies.length ≤ 40 * n := by rw [← hs1]; exact I.ll
  have rl1 : s1.rows.length ≤ 40 * n := by rw [← hs1]; exact I.rl
  have ce1 : ((s1.cells.length : Nat) : Int) = c.pl := by rw [← hs1]; exact I.ce
  and_intros
  refine ⟨⟨_, sql v1'⟩, ?_⟩
  refine for_list (xs := eas.map V.ref) (fun i σ H' => ∃ y4 y5, σ = [some (.ref r), some (.int turn), some (.ref da), some (.ref ev), y4, y5] ∧ Imm H2 H' ∧ H' ev = some (.lst (eas.map V.ref)) ∧ RunO K CR C c H0 H' r dx h v cA lA aA rA st' ((es.take i).foldl (evS turn) s1))
    ⟨none, none, rfl, Imm.refl _, v1', o2⟩ (fun i σ H' _ h => ?_) (fun i x σ H' hi h => ?_) (fun σ H' h => ?_)
  · obtain ⟨y4, y5, rfl, im, e, _⟩ := h
    exact sql e
  · obtain ⟨y4, y5, rfl, im, he, oi⟩ := h
    obtain ⟨u, ee, rfl, hu, tk, eg⟩ := pr_at (v2'.imm im) hi
    have hi' : i < es.length := (List.getElem?_eq_some_iff.mp eg).1
    obtain ⟨A1, a1, a2, a3, a4, a5⟩ := pre i (by omega)
    have dr : es.drop i = ee :: es.drop (i + 1) := by
      rw [List.drop_eq_getElem_cons hi']
      have : es[i] = ee := by
        rw [List.getElem?_eq_getElem hi'] at eg
        exact Option.some.inj eg
      rw [this]
    rw [dr] at a2
    have ef : (es.take (i + 1)).foldl (evS turn) s1 = evS turn ((es.take i).foldl (evS turn) s1) ee := by rw [tk, List.foldl_append]; rfl
    rw [ef]
    generalize (es.take i).foldl (evS turn) s1 = si at oi a1 a3 a4 a5 ef
    obtain ⟨wd, p⟩ := ee
    have hu : SqT K H' u [.str wd, .int p] := hu
    obtain ⟨b1, b2, _⟩ := ev_step (turn := turn) a1 a2
    refine ⟨u, _, rfl, hu, rfl, _, _, rfl, _, _, rfl, rfl, ?_⟩
    refine ⟨_, rfl, r, CR, dx, _, _, rfl, oi.ob, KC_Run.cl, RC.rows, rfl, ?_⟩
    obtain ⟨as, rr1, rr2⟩ := oi.hrr
    refine ⟨.inl ⟨rfl, _, sql rr1⟩, ?_⟩
    and_intros
    intro p1 n1
    have o3 := oi.same (same_upd (o := .tup [.int turn, .str wd, .int p]) n1)
    have rr1' := same_upd (o := .tup [.int turn, .str wd, .int p]) n1 _ _ rr1
    have las : as.length = si.rows.length := Paired.length rr2
    and_intros
    refine ⟨_, _, _, rfl, rfl, rr1', by rw [List.length_map]; exact szl (by omega), ?_⟩
    have o4 := o3.row rr1' (rr2.imm (Imm.same (same_upd n1))) (t := turn) (x := wd) (q := p) (sqt upd_same)
    have im4 : Imm H2 (upd (upd H' p1 (.tup [.int turn, .str wd, .int p])) rA (.lst (as.map V.ref ++ [.ref p1]))) := (im.trans (Imm.same (same_upd n1))).trans (Imm.upd ⟨_, rr1'⟩)
    have he4 : (upd (upd H' p1 (.tup [.int turn, .str wd, .int p])) rA (.lst (as.map V.ref ++ [.ref p1]))) ev = some (.lst (eas.map V.ref)) := by
      rw [upd_ne evr]
      exact same_upd n1 _ _ he
    generalize upd (upd H' p1 (.tup [.int turn, .str wd, .int p])) rA (.lst (as.map V.ref ++ [.ref p1])) = H4 at o4 im4 he4 ⊢
    and_intros
    intro p2 n2
    have o5 := o4.same (same_upd (o := .tup [.str "leave", .str "waste"]) n2)
    have im5 := im4.trans (Imm.same (same_upd (o := .tup [.str "leave", .str "waste"]) n2))
    have he5 := same_upd (o := .tup [.str "leave", .str "waste"]) n2 _ _ he4
    have t5 : (upd H4 p2 (.tup [.str "leave", .str "waste"])) p2 = some (.tup [.str "leave", .str "waste"]) := upd_same
    generalize upd H4 p2 (.tup [.str "leave", .str "waste"]) = H5 at o5 im5 he5 t5 ⊢
    refine ⟨p2, _, rfl, .inr (sqt t5), rfl, rfl, ?_⟩
    refine ⟨_, rfl, ?_⟩
    rw [inV_2]
    by_cases co : isOut wd
    · refine iteB (decide_eq_true co) ?_
      obtain ⟨pv, pe⟩ := look_ks (b2 co)
      refine ⟨_, rfl, r, CR, dx, _, _, rfl, o5.ob, KC_Run.cl, RC.lies, rfl, lA, rfl, .inl ⟨_, .inl o5.hl⟩, _, rfl, _, Sum.inl p, _, o5.hl, rfl, by rw [val_dki]; show (si.lies.lookup p).map V.int = _; rw [pe]; rfl, ?_⟩
      rw [drop_dki]
      have eq : evS turn si (wd, p) = { cells := si.cells, lies := si.lies.filter (fun x => decide (x.1 ≠ p)), answers := si.answers, rows := si.rows ++ [(turn, wd, p)], st := si.st } := by unfold evS; rw [if_pos co]
      rw [eq]
      exact ⟨_, _, rfl, im5.trans (Imm.updN o5.hl (by intro _ z; cases z) (by intro _ _ z; cases z)), by rw [upd_ne evl]; exact he5, o5.lie _⟩
    · refine iteB0 (decide_eq_false co) ?_
      and_intros
      intro p3 n3
      have o6 := o5.same (same_upd (o := .tup [.str "come", .str "late", .str "miss"]) n3)
      have im6 := im5.trans (Imm.same (same_upd (o := .tup [.str "come", .str "late", .str "miss"]) n3))
      have he6 := same_upd (o := .tup [.str "come", .str "late", .str "miss"]) n3 _ _ he5
      have t6 : (upd H5 p3 (.tup [.str "come", .str "late", .str "miss"])) p3 = some (.tup [.str "come", .str "late", .str "miss"]) := upd_same
      generalize upd H5 p3 (.tup [.str "come", .str "late", .str "miss"]) = H6 at o6 im6 he6 t6 ⊢
      refine ⟨p3, _, rfl, .inr (sqt t6), rfl, rfl, ?_⟩
      refine ⟨_, rfl, ?_⟩
      rw [inV_3]
      by_cases ci : isIn wd
      · refine iteB (decide_eq_true ci) ?_
        have eq : evS turn si (wd, p) = { cells := si.cells, lies := putI si.lies p (si.cells.getD p.toNat 0), answers := si.answers, rows := si.rows ++ [(turn, wd, p)], st := si.st } := by unfold evS; rw [if_neg co, if_pos ci]
        rw [eq]
        have cei : ((si.cells.length : Nat) : Int) = c.pl := by rw [a5]; exact ce1
        have hat : atI (si.cells.map V.int) p = some (.int (si.cells.getD p.toNat 0)) := at_ps (i := p.toNat) (by omega) (by omega)
        refine ⟨_, rfl, r, CR, dx, _, _, rfl, o6.ob, KC_Run.cl, RC.cells, rfl, ?_⟩
        refine ⟨_, rfl, _, _, _, _, rfl, rfl, sql o6.hc, hat, ?_⟩
        refine ⟨_, rfl, r, CR, dx, _, _, rfl, o6.ob, KC_Run.cl, RC.lies, rfl, ?_⟩
        refine ⟨_, rfl, lA, _, rfl, DPut.k (k := Sum.inl p) o6.hl (by unfold dki; rw [List.length_map]; exact szl (by show si.lies.length < _; omega)), ?_⟩
        rw [put_dki]
        exact ⟨_, _, rfl, im6.trans (Imm.updN o6.hl (by intro _ z; cases z) (by intro _ _ z; cases z)), by rw [upd_ne evl]; exact he6, o6.lie _⟩
      · refine iteB0 (decide_eq_false ci) ?_
        have eq : evS turn si (wd, p) = { cells := si.cells, lies := si.lies, answers := si.answers, rows := si.rows ++ [(turn, wd, p)], st := si.st } := by unfold evS; rw [if_neg co, if_neg ci]
        rw [eq]
        exact ⟨_, _, rfl, im6, he6, o6⟩
  · obtain ⟨y4, y5, rfl, im, he, oi⟩ := h
    rw [show es.take (eas.map V.ref).length = es by rw [List.length_map, hle]; exact List.take_length] at oi
    have hsq3 := im.t hsq2
    have imZ := imA.trans im
    obtain ⟨r1, r2, r3, r4, r5, r6⟩ := run
    generalize es.foldl (evS turn) s1 = t at oi q' r1 r2 r3 r4 r5 r6
    have tk : d.1 ∈ ks t.lies := (r1 _).mpr gi3'
    obtain ⟨pv, pe⟩ := look_ks tk
    have hget : DGet H' lA (.int d.1) (some (.int pv)) := by
      have z := DGet.k (k := Sum.inl d.1) oi.hl
      rw [val_dki, pe] at z
      exact z
    have al := I.al
    have al1 : t.answers.length ≤ n := by
      rw [r5, ← hs1]
      exact al
    obtain ⟨dp, dv⟩ := d
    rcases hw with ⟨rfl, e⟩ | ⟨hw, vv, e, er⟩
    · have e : dv = none := e
      subst e
      and_intros
      refine ⟨r, CR, dx, _, _, rfl, oi.ob, KC_Run.cl, RC.answers, rfl, ?_⟩
      refine ⟨.inl ⟨rfl, _, sql oi.ha⟩, ?_⟩
      refine ⟨_, rfl, r, CR, dx, _, _, rfl, oi.ob, KC_Run.cl, RC.lies, rfl, ?_⟩
      and_intros
      refine ⟨_, _, rfl, hget, ?_⟩
      refine ⟨_, _, _, rfl, rfl, oi.ha, by rw [List.length_map]; exact szl (by omega), ?_⟩
      have oz := oi.ans (t.answers ++ [pv])
      have ed : doD (dp, none) t = { t with answers := t.answers ++ [pv] } := by
        unfold doD
        show ({ t with answers := t.answers ++ [(t.lies.lookup dp).getD 0] } : RunS) = _
        rw [show t.lies.lookup dp = some pv from pe]
        rfl
      rw [← ed, List.map_append] at oz
      exact q' st' _ (imZ.trans (Imm.upd ⟨_, oi.ha⟩)) oz
    · have e : dv = some vv := e
      subst e er
      have gd : (0 ≤ dp ∧ dp < c.pl) ∧ 0 ≤ vv ∧ vv ≤ 99 := gd
      and_intros
      refine iteB0 (decide_eq_false fun z => hw (V.str.inj z)) ?_
      and_intros
      refine ⟨r, CR, dx, _, _, rfl, oi.ob, KC_Run.cl, RC.lies, rfl, ?_⟩
      and_intros
      have tl : t.lies.length ≤ 40 * n + 34 := by omega
      refine ⟨lA, _, rfl, DPut.k (k := Sum.inl dp) oi.hl (by unfold dki; rw [List.length_map]; exact szl (by omega)), ?_⟩
      rw [put_dki]
      have oj := oi.lie (putI t.lies dp vv)
      have imj : Imm H' (upd H' lA (.dK (dki (putI t.lies dp vv)))) := Imm.updN oi.hl (by intro _ z; cases z) (by intro _ _ z; cases z)
      have hsq4 := imj.t hsq3
      generalize upd H' lA (.dK (dki (putI t.lies dp vv))) = H5 at oj imj hsq4 ⊢
      and_intros
      refine ⟨r, CR, dx, _, _, rfl, oj.ob, KC_Run.cl, RC.cells, rfl, ?_⟩
      have ct : ((t.cells.length : Nat) : Int) = c.pl := by rw [r4]; exact ce1
      and_intros
      refine ⟨_, _, _, dp.toNat, rfl, rfl, oj.hc, by unfold ixN; rw [if_pos gd.1.1, if_pos (by rw [List.length_map]; show dp < ((t.cells.length : Nat) : Int); omega)], ?_⟩
      have oz := oj.cell (t.cells.set dp.toNat vv)
      rw [List.map_set] at oz
      exact q' st' _ ((imZ.trans imj).trans (Imm.upd ⟨_, oj.hc⟩)) oz
end
end St

namespace St
open PySem PySem.Spec PyProof.Rows L2
abbrev s_Run___init__ : Stmt := inClass (topS 38) 0
abbrev N_Run___init__ : List Str := ["self", "setting", "guesser", "row", "turn"]
abbrev p_Run___init__ : List Str := ["self", "setting", "guesser", "row"]
theorem sc_Run___init__ : FnScope N_Run___init__ p_Run___init__ (defScope s_Run___init__) := ⟨rfl, rfl, rfl, by decide +kernel, rfl, by decide +kernel, by decide +kernel⟩
def cfgOf (s : Stg) (g : G) : Cfg := ⟨((s.mem.length : Nat) : Int), s.rm, s.lt, s.ms, g⟩
def run0 (s : Stg) (g : G) : RunS := ⟨s.mem, [], [], [], ([], [], first0 g)⟩
def runTo (s : Stg) (g : G) (ds : List Deed) : Nat → RunS
  | 0 => run0 s g
  | i + 1 => match ds[i]? with
    | none => runTo s g ds i
    | some d => deedS (cfgOf s g) ((i : Nat) : Int) d (runTo s g ds i)
theorem cfg_ok {s : Stg} {g : G} (hs : s.Good) (hg : good 3 g = true) : (cfgOf s g).Ok := ⟨hg, hs.r1, hs.r2, hs.w2⟩
theorem run0_inv {s : Stg} {g : G} (hs : s.Good) (hg : good 3 g = true) : InvD (cfgOf s g) 0 (run0 s g) :=
  ⟨rfl, fun _ => Iff.rfl, ⟨List.nodup_nil, fun _ h => (nomatch h), by have := hs.r1; show (0 : Int) ≤ s.rm; omega, by have := hs.w1; show (0 : Int) ≤ s.ms; omega⟩, fit_first hg, ok_first g, Nat.le_refl _, Nat.le_refl _, Nat.le_refl _⟩
theorem runTo_inv {s : Stg} {g : G} (hs : s.Good) (hg : good 3 g = true) {ds : List Deed} (hd : ∀ d ∈ ds, Deed.Good ((s.mem.length : Nat) : Int) d) : ∀ i, i ≤ ds.length → InvD (cfgOf s g) i (runTo s g ds i)
  | 0, _ => run0_inv hs hg
  | i + 1, hi => by
    have ih := runTo_inv hs hg hd i (by omega)
    unfold runTo
    rw [List.getElem?_eq_getElem (show i < ds.length by omega)]
    exact deed_inv (cfg_ok hs hg) ih (hd _ (List.getElem_mem (by omega)))
theorem stepF {Hk : Hp} {p a : Addr} {o : HO} {fs : List (Str × V)} (fs' : List (Str × V)) {C dx : Addr} (e : Hk p = some (.ins C dx fs)) (na : Hk a = none) :
    SameX p Hk (upd (upd Hk a o) p (.ins C dx fs')) ∧ (upd (upd Hk a o) p (.ins C dx fs')) p = some (.ins C dx fs') ∧ a ≠ p ∧ (upd (upd Hk a o) p (.ins C dx fs')) a = some o ∧ Imm Hk (upd (upd Hk a o) p (.ins C dx fs')) := by
  have n : a ≠ p := (ne_of_none e na).symm
  have e' := same_upd (o := o) na _ _ e
  exact ⟨(SameX.of (same_upd na)).trans SameX.upd, upd_same, n, by rw [upd_ne n, upd_same], (Imm.same (same_upd na)).trans (Imm.updN e' (by intro _ z; cases z) (by intro _ _ z; cases z))⟩
section
variable {P : Program} {w : World} {K : PySem.W.Frag} {mg : Str → Option Value} {base : Heap} {f fI fH f1 f2 f3 f4 f5 f6 f7 f8 f9 f10 f11 f12 C CR : Addr} {fd fdI fdH fd1 fd2 fd3 fd4 fd5 fd6 fd7 fd8 fd9 fd10 fd11 fd12 : FuncData}
def spRunI (K : PySem.W.Frag) (CR C : Addr) : Sp := fun vs H Q _ => ∃ (p dx sa ra : Addr) (v : V) (s : Stg) (g : G) (H0 : Hp) (as : List Addr) (ds : List Deed), vs = [.ref p, .ref sa, v, .ref ra] ∧ H p = some (.ins CR dx []) ∧ Same H0 H ∧ H0 p = none ∧ IsSet K H0 sa s ∧ s.Good ∧ IsG K H0 g v ∧ good 3 g = true ∧ SqL K H0 ra (as.map V.ref) ∧ PrD K H0 as ds ∧ (∀ d ∈ ds, Deed.Good ((s.mem.length : Nat) : Int) d) ∧ ds.length ≤ 100 ∧
  ∀ h cA lA aA rA st H', RunO K CR C (cfgOf s g) H0 H' p dx h v cA lA aA rA st (runTo s g ds ds.length) → Q .non H'
theorem ok_Run___init__ (T : Nms mg) (HC : HouseC K C) (KC_House : ClassD K mg "House" C fH) (KC_Run : ClassD K mg "Run" CR fI) (RC : RunC K CR) (D_House___init__ : Mf K C "__init__" "House.__init__" s_House___init__ p_House___init__ fH fdH)
    (D_laid : Df K mg "laid" s_laid p_laid f1 fd1) (D_come : Df K mg "come" s_come p_come f2 fd2) (D_asked : Df K mg "asked" s_asked p_asked f3 fd3) (D_started : Df K mg "started" s_started p_started f4 fd4)
    (D_strided : Df K mg "strided" s_strided p_strided f5 fd5) (D_paired : Df K mg "paired" s_paired p_paired f6 fd6) (D_stepped : Df K mg "stepped" s_stepped p_stepped f7 fd7) (D_gone_on : Df K mg "gone_on" s_gone_on p_gone_on f8 fd8)
    (D_first_state : Df K mg "first_state" s_first_state p_first_state f9 fd9) (D_begun : Df K mg "begun" s_begun p_begun f10 fd10) (D_Run_do_deed : Mf K CR "do_deed" "Run.do_deed" s_Run_do_deed p_Run_do_deed f11 fd11)
    (F : Fun K "__init__" "Run.__init__" s_Run___init__ f fd) : FnOk P w K mg base CX0 8 f fd p_Run___init__ (spRunI K CR C) := by
  have G_House___init__ : FnOk P w K mg base CX0 1 fH fdH p_House___init__ (spHouse K C) := ok_House___init__ T HC D_House___init__.F
  have G_begun : FnOk P w K mg base CX0 5 f10 fd10 p_begun (spBegun K) := ok_begun T D_first_state D_begun.F
  have G_Run_do_deed : FnOk P w K mg base CX0 7 f11 fd11 p_Run_do_deed (spDo K CR C) := ok_Run_do_deed T HC KC_Run RC D_laid D_come D_asked D_started D_strided D_paired D_stepped D_gone_on D_Run_do_deed.F
  refine F.ok sc_Run___init__ (fun vs H Q E h => ?_) (fun cdv A outer s H vs Q E hr h => ?_)
  · obtain ⟨p, dx, sa, ra, v, s, g, H0, as, ds, rfl, _⟩ := h
    rfl
  obtain ⟨p, dx, sa, ra, v, s, g, H0, as, ds, rfl, hp, s0, np, hS, gS, hG, hg, hra, pd, gd, hl, q⟩ := h
  refine ⟨_, (pss_cons (ps_fld (pv 0) (pe_make KC_House.M G_House___init__ (hr.mono (by first | decide | omega)) (by rfl) KC_House.g D_House___init__.b .nil pass0 (pa_cons (pv 1) pa_nil)) rfl)
  (pss_cons (ps_fld (pv 0) (pv 2) rfl)
  (pss_cons (ps_fld (pv 0) (pe_callTy call_list_of (by rfl) T.n_list (by decide +kernel) (pa_cons (pe_ix ix_tup (pv 1) pe_int (fun _ _ => rfl)) pa_nil)) rfl)
  (pss_cons (ps_fld (pv 0) pe_dnewK rfl)
  (pss_cons (ps_fld (pv 0) (pe_lst pa_nil) rfl)
  (pss_cons (ps_fld (pv 0) (pe_lst pa_nil) rfl)
  (pss_cons (ps_fld (pv 0) (pe_call G_begun (hr.mono (by first | decide | omega)) (by rfl) D_begun.m D_begun.F.kp D_begun.b .nil pass0 (pa_cons (pv 2) pa_nil)) rfl)
  (pss_one (ps_for PassesOwn.never rfl (pi_range1 rfl T.n_range (pa_cons (pe_callB call_len_seq (by rfl) T.n_len (by decide +kernel) (pa_cons (pv 3) pa_nil)) pa_nil)) (pg_name (i := 4) sc_Run___init__.nd rfl (Or.inl rfl))
    (pss_one (ps_expr (pe_meth (pv 0) KC_Run.cl D_Run_do_deed.m G_Run_do_deed (hr.mono (by first | decide | omega)) D_Run_do_deed.b .nil pass0 (pa_cons (pv 4) (pa_cons (pe_ix ix_list (pv 3) (pv 4) (fun _ _ => rfl)) pa_nil)))))))))))))), ?_⟩
  have hS' := hS.imm (Imm.same s0)
  have hG' := hG.imm (Imm.same s0)
  have insN : ∀ (dx : Addr) (fs : List (Str × V)), (∀ xs, HO.ins CR dx fs ≠ .tup xs) ∧ (∀ a b, HO.ins CR dx fs ≠ .frz a b) := fun dx fs => ⟨(by intro _ z; cases z), (by intro _ _ z; cases z)⟩
  and_intros
  intro x dx2 nx ndx2 nex
  have sB : Same H (upd (upd H dx2 (.own x)) x (.ins C dx2 [])) := fun b o e => by
    rw [upd_ne (ne_of_none e nx), upd_ne (ne_of_none e ndx2)]
    exact e
  refine ⟨x, sa, dx2, s, rfl, upd_same, hS'.imm (Imm.same sB), fun H1 s1 i1 => ?_⟩
  have sH1 := sameX_same sB s1 nx
  have nxp : x ≠ p := (ne_of_none hp nx).symm
  refine ⟨rfl, ?_⟩
  have hp1 := sH1 _ _ hp
  refine ⟨_, rfl, p, CR, dx, [], rfl, hp1, KC_Run.cl, RC.house, (by show 0 < 1000; decide), ?_⟩
  refine ⟨_, rfl, _, rfl, p, CR, dx, _, rfl, upd_same, KC_Run.cl, RC.guesser, (by show 1 < 1000; decide), ?_⟩
  rw [upd_upd]
  have im1 : Imm H (upd H1 p (.ins CR dx (putF "guesser" v (putF "house" (.ref x) [])))) := (Imm.same sH1).trans (Imm.updN hp1 (insN _ _).1 (insN _ _).2)
  have x1 : SameX p H (upd H1 p (.ins CR dx (putF "guesser" v (putF "house" (.ref x) [])))) := (SameX.of sH1).trans SameX.upd
  have e1 : (upd H1 p (.ins CR dx (putF "guesser" v (putF "house" (.ref x) [])))) p = some (.ins CR dx (putF "guesser" v (putF "house" (.ref x) []))) := upd_same
  have i2 : IsH C (upd H1 p (.ins CR dx (putF "guesser" v (putF "house" (.ref x) [])))) x ((s.mem.length : Nat) : Int) s.rm s.lt s.ms := by
    obtain ⟨dh, i1⟩ := i1
    exact ⟨dh, by rw [upd_ne nxp]; exact i1⟩
  generalize upd H1 p (.ins CR dx (putF "guesser" v (putF "house" (.ref x) []))) = H2 at im1 x1 e1 i2 ⊢
  clear hp1 sH1 s1 i1 sB
  obtain ⟨m, m1, m2⟩ := hS'.imm im1
  and_intros
  intro cA ncA
  have fr : ∀ {a : Addr} {Hk : Hp}, SameX p H Hk → Hk p ≠ none → Hk a = none → H0 a = none := fun {a Hk} sx hk ha => by
    cases e : H0 a with
    | none => rfl
    | some o =>
      by_cases c : a = p
      · subst c; exact absurd ha hk
      · rw [sx _ _ c (s0 _ _ e)] at ha
        cases ha
  have sn : ∀ {z : HO}, some z ≠ none := fun {z} q => by cases q
  have nc0 := fr x1 (by rw [e1]; exact sn) ncA
  have ncp : cA ≠ p := (ne_of_none e1 ncA).symm
  refine ⟨_, rfl, p, CR, dx, _, rfl, same_upd ncA _ _ e1, KC_Run.cl, RC.cells, (by show 2 < 1000; decide), ?_⟩
  obtain ⟨x2, e2, _, c2, im2⟩ := stepF (o := .lst (s.mem.map V.int)) (putF "cells" (.ref cA) (putF "guesser" v (putF "house" (.ref x) []))) e1 ncA
  have hx2 : ∀ {Hk : Hp}, SameX p H2 Hk → IsH C Hk x ((s.mem.length : Nat) : Int) s.rm s.lt s.ms := fun {Hk} sx => by
    obtain ⟨dh, i2⟩ := i2
    exact ⟨dh, sx _ _ nxp i2⟩
  generalize upd (upd H2 cA (.lst (s.mem.map V.int))) p (.ins CR dx (putF "cells" (.ref cA) (putF "guesser" v (putF "house" (.ref x) [])))) = H3 at x2 e2 c2 im2 ⊢
  -- lies
  intro lA nlA
  have nl0 := fr (x1.trans x2) (by rw [e2]; exact sn) nlA
  have nlc : lA ≠ cA := (ne_of_none c2 nlA).symm
  refine ⟨_, rfl, p, CR, dx, _, rfl, same_upd nlA _ _ e2, KC_Run.cl, RC.lies, (by show 3 < 1000; decide), ?_⟩
  obtain ⟨x3, e3, nlp, l3, im3⟩ := stepF (o := .dK []) (putF "lies" (.ref lA) (putF "cells" (.ref cA) (putF "guesser" v (putF "house" (.ref x) [])))) e2 nlA
  have c3 := x3 _ _ ncp c2
  generalize upd (upd H3 lA (.dK [])) p (.ins CR dx (putF "lies" (.ref lA) (putF "cells" (.ref cA) (putF "guesser" v (putF "house" (.ref x) []))))) = H4 at x3 e3 l3 im3 c3 ⊢
  -- answers
  and_intros
  intro aA naA
  have na0 := fr ((x1.trans x2).trans x3) (by rw [e3]; exact sn) naA
  have nac : cA ≠ aA := ne_of_none c3 naA
  refine ⟨_, rfl, p, CR, dx, _, rfl, same_upd naA _ _ e3, KC_Run.cl, RC.answers, (by show 4 < 1000; decide), ?_⟩
  obtain ⟨x4, e4, nap, a4, im4⟩ := stepF (o := .lst []) (putF "answers" (.ref aA) (putF "lies" (.ref lA) (putF "cells" (.ref cA) (putF "guesser" v (putF "house" (.ref x) []))))) e3 naA
  have c4 := x4 _ _ ncp c3
  have l4 := x4 _ _ nlp l3
  generalize upd (upd H4 aA (.lst [])) p (.ins CR dx (putF "answers" (.ref aA) (putF "lies" (.ref lA) (putF "cells" (.ref cA) (putF "guesser" v (putF "house" (.ref x) [])))))) = H5 at x4 e4 a4 im4 c4 l4 ⊢
  -- rows
  and_intros
  intro rA nrA
  have nr0 := fr (((x1.trans x2).trans x3).trans x4) (by rw [e4]; exact sn) nrA
  have nrc : cA ≠ rA := ne_of_none c4 nrA
  have nra : aA ≠ rA := ne_of_none a4 nrA
  refine ⟨_, rfl, p, CR, dx, _, rfl, same_upd nrA _ _ e4, KC_Run.cl, RC.rows, (by show 5 < 1000; decide), ?_⟩
  obtain ⟨x5, e5, nrp, r5, im5⟩ := stepF (o := .lst []) (putF "rows" (.ref rA) (putF "answers" (.ref aA) (putF "lies" (.ref lA) (putF "cells" (.ref cA) (putF "guesser" v (putF "house" (.ref x) [])))))) e4 nrA
  have c5 := x5 _ _ ncp c4
  have l5 := x5 _ _ nlp l4
  have a5 := x5 _ _ nap a4
  have x25 := ((x2.trans x3).trans x4).trans x5
  have im25 := ((im2.trans im3).trans im4).trans im5
  clear x2 x3 x4 e2 e3 e4 im2 im3 im4 c2 c3 c4 l3 l4 a4
  generalize upd (upd H5 rA (.lst [])) p (.ins CR dx (putF "rows" (.ref rA) (putF "answers" (.ref aA) (putF "lies" (.ref lA) (putF "cells" (.ref cA) (putF "guesser" v (putF "house" (.ref x) []))))))) = H6 at x25 e5 r5 im25 c5 l5 a5 ⊢
  -- state
  and_intros
  refine ⟨v, g, rfl, (hG'.imm im1).imm im25, hg, fun st H7 s7 hst => ?_⟩
  refine ⟨_, rfl, p, CR, dx, _, rfl, s7 _ _ e5, KC_Run.cl, RC.state, (by show 6 < 1000; decide), ?_⟩
  have e7 := s7 _ _ e5
  have x8 : SameX p H7 (upd H7 p (.ins CR dx (rfs x v cA lA aA rA st))) := SameX.upd
  have im8 : Imm H7 (upd H7 p (.ins CR dx (rfs x v cA lA aA rA st))) := Imm.updN e7 (by intro _ z; cases z) (by intro _ _ z; cases z)
  have x68 : SameX p H6 (upd H7 p (.ins CR dx (rfs x v cA lA aA rA st))) := (SameX.of s7).trans x8
  have o8 : RunO K CR C (cfgOf s g) H0 (upd H7 p (.ins CR dx (rfs x v cA lA aA rA st))) p dx x v cA lA aA rA st (run0 s g) :=
    ⟨upd_same, fun b o e => (x1.trans (x25.trans x68)) _ _ (fun z => by subst z; rw [np] at e; cases e) (s0 _ _ e), np, nc0, nl0, na0, nr0, nac, nrc, nra, nxp, hx2 (x25.trans x68), ((hG'.imm im1).imm im25).imm ((Imm.same s7).trans im8),
      x68 _ _ ncp c5, x68 _ _ nlp l5, x68 _ _ nap a5, ⟨[], x68 _ _ nrp r5, .nil⟩, hst.imm im8⟩
  rw [show putF "state" (V.ref st) (putF "rows" (V.ref rA) (putF "answers" (V.ref aA) (putF "lies" (V.ref lA) (putF "cells" (V.ref cA) (putF "guesser" v (putF "house" (V.ref x) [])))))) = rfs x v cA lA aA rA st from rfl]
  generalize upd H7 p (.ins CR dx (rfs x v cA lA aA rA st)) = H8 at o8 ⊢
  have las : as.length = ds.length := Paired.length pd
  have hra8 := same_l o8.s0 hra
  refine ⟨_, rfl, _, _, rfl, .inl hra8, _, rfl, by omega, by rw [List.length_map]; omega, ?_⟩
  rw [show ((((as.map V.ref).length : Nat) : Int)).toNat = ds.length by rw [List.length_map, las]; exact Int.toNat_natCast _]
  refine for_range (lo := 0) (n := ds.length) (fun i σ H' => ∃ y4 st, σ = [some (.ref p), some (.ref sa), some v, some (.ref ra), y4] ∧ RunO K CR C (cfgOf s g) H0 H' p dx x v cA lA aA rA st (runTo s g ds i)) ⟨none, st, rfl, o8⟩ (fun i σ H' hi h => ?_) (fun σ H' h => ?_)
  · obtain ⟨y4, st, rfl, oi⟩ := h
    have ea : (as.map V.ref)[i]? = some (.ref (as[i]'(by omega))) := by rw [List.getElem?_map, List.getElem?_eq_getElem (show i < as.length by omega)]; rfl
    obtain ⟨u, d, eu, hu, _, ed⟩ := pr_at pd ea
    cases eu
    have er : runTo s g ds (i + 1) = deedS (cfgOf s g) ((i : Nat) : Int) d (runTo s g ds i) := by
      show (match ds[i]? with | none => _ | some d => _) = _
      rw [ed]
    have ez : (0 + (i : Int)) = ((i : Nat) : Int) := by omega
    rw [ez, er]
    have iv := runTo_inv gS hg gd i (by omega)
    refine ⟨_, rfl, p, dx, _, rfl, oi.ob, rfl, ?_⟩
    and_intros
    refine ⟨_, _, _, _, rfl, rfl, same_l oi.s0 hra, atI_nat ea, ?_⟩
    refine ⟨p, _, dx, x, v, cA, lA, aA, rA, st, ((i : Nat) : Int), cfgOf s g, H0, runTo s g ds i, d, i, rfl, oi, hu.imm (Imm.same oi.s0), gd _ (List.mem_of_getElem? ed), cfg_ok gS hg, iv, by omega, fun st' H9 _ o9 => ?_⟩
    exact ⟨_, st', rfl, o9⟩
  · obtain ⟨y4, st, rfl, oi⟩ := h
    exact q _ _ _ _ _ _ _ oi
end
end St

namespace St
open PySem PySem.Spec PyProof.Rows L2
/-- all that a run leans on -/
structure RunCo (K : PySem.W.Frag) (mg : Str → Option Value) (C CR : Addr) where
  {fI fH f1 f2 f3 f4 f5 f6 f7 f8 f9 f10 f11 : Addr}
  {fdI fdH fd1 fd2 fd3 fd4 fd5 fd6 fd7 fd8 fd9 fd10 fd11 : FuncData}
  T : Nms mg
  HC : HouseC K C
  KC_House : ClassD K mg "House" C fH
  KC_Run : ClassD K mg "Run" CR fI
  RC : RunC K CR
  D_House___init__ : Mf K C "__init__" "House.__init__" s_House___init__ p_House___init__ fH fdH
  D_laid : Df K mg "laid" s_laid p_laid f1 fd1
  D_come : Df K mg "come" s_come p_come f2 fd2
  D_asked : Df K mg "asked" s_asked p_asked f3 fd3
  D_started : Df K mg "started" s_started p_started f4 fd4
  D_strided : Df K mg "strided" s_strided p_strided f5 fd5
  D_paired : Df K mg "paired" s_paired p_paired f6 fd6
  D_stepped : Df K mg "stepped" s_stepped p_stepped f7 fd7
  D_gone_on : Df K mg "gone_on" s_gone_on p_gone_on f8 fd8
  D_first_state : Df K mg "first_state" s_first_state p_first_state f9 fd9
  D_begun : Df K mg "begun" s_begun p_begun f10 fd10
  D_Run_do_deed : Mf K CR "do_deed" "Run.do_deed" s_Run_do_deed p_Run_do_deed f11 fd11
  D_Run___init__ : Mf K CR "__init__" "Run.__init__" s_Run___init__ p_Run___init__ fI fdI
section
variable {P : Program} {w : World} {K : PySem.W.Frag} {mg : Str → Option Value} {base : Heap} {C CR f : Addr} {fd : FuncData}
theorem RunCo.ini (S : RunCo K mg C CR) : FnOk P w K mg base CX0 8 S.fI S.fdI p_Run___init__ (spRunI K CR C) :=
  ok_Run___init__ S.T S.HC S.KC_House S.KC_Run S.RC S.D_House___init__ S.D_laid S.D_come S.D_asked S.D_started S.D_strided S.D_paired S.D_stepped S.D_gone_on S.D_first_state S.D_begun S.D_Run_do_deed S.D_Run___init__.F
end
end St

namespace St
open PySem PySem.Spec PyProof.Rows L2
/-- all that the looks at what is handed in lean on -/
structure NeedCo (K : PySem.W.Frag) (w : World) (mg : Str → Option Value) where
  {dS dM fA fB fC fD fE fF : Addr}
  {fdA fdB fdC fdD fdE fdF : FuncData}
  T : Nms mg
  B : Tab K w mg dS dM
  Cn : Cns mg
  D_is_guesser : Df K mg "is_guesser" s_is_guesser p_is_guesser fA fdA
  D_need_guesser : Df K mg "need_guesser" s_need_guesser p_need_guesser fB fdB
  D_need_setting : Df K mg "need_setting" s_need_setting p_need_setting fC fdC
  D_is_deed : Df K mg "is_deed" s_is_deed p_is_deed fD fdD
  D_need_row : Df K mg "need_row" s_need_row p_need_row fE fdE
  D_need_all : Df K mg "need_all" s_need_all p_need_all fF fdF
section
variable {P : Program} {w : World} {K : PySem.W.Frag} {mg : Str → Option Value} {base : Heap} {C CR f : Addr} {fd : FuncData}
theorem NeedCo.all (N : NeedCo K w mg) : FnOk P w K mg base CX0 7 N.fF N.fdF p_need_all (spNeedAll K) :=
  ok_need_all N.T N.B N.Cn N.D_is_guesser N.D_need_guesser N.D_need_setting N.D_is_deed N.D_need_row N.D_need_all.F
end
end St

namespace St
open PySem PySem.Spec PyProof.Rows L2
abbrev s_Run_count : Stmt := inClass (topS 38) 2
abbrev N_Run_count : List Str := ["self", "words", "row"]
abbrev p_Run_count : List Str := ["self", "words"]
theorem sc_Run_count : FnScope N_Run_count p_Run_count (defScope s_Run_count) := ⟨rfl, rfl, rfl, by decide +kernel, rfl, by decide +kernel, by decide +kernel⟩
abbrev s_Run_counts : Stmt := inClass (topS 38) 3
abbrev N_Run_counts : List Str := ["self", "three", "used"]
abbrev p_Run_counts : List Str := ["self"]
theorem sc_Run_counts : FnScope N_Run_counts p_Run_counts (defScope s_Run_counts) := ⟨rfl, rfl, rfl, by decide +kernel, rfl, by decide +kernel, by decide +kernel⟩
abbrev s_idle_in : Stmt := topS 36
abbrev N_idle_in : List Str := ["state", "one"]
abbrev p_idle_in : List Str := ["state"]
theorem sc_idle_in : FnScope N_idle_in p_idle_in (defScope s_idle_in) := ⟨rfl, rfl, rfl, by decide +kernel, rfl, by decide +kernel, by decide +kernel⟩
theorem flat_strs : ∀ l : List Str, (l.map V.str).all flatV = true
  | [] => rfl
  | _ :: r => by rw [List.map_cons, List.all_cons, flat_strs r]; rfl
theorem inV_strs (g : Str) : ∀ l : List Str, inV (.str g) (l.map V.str) = decide (g ∈ l)
  | [] => by simp [inV]
  | a :: r => by
    have ih := inV_strs g r
    show ((a == g) || inV (.str g) (r.map V.str)) = _
    rw [ih]
    by_cases c : g = a
    · subst c; simp
    · have e1 : (a == g) = false := beq_eq_false_iff_ne.mpr (Ne.symm c)
      simp [e1, c]
/-! ### what is counted -/
def cntP (ws : List Str) (rs : List (Int × Str × Int)) : Nat := (rs.filter fun e => decide (e.2.1 ∈ ws)).length
def idleN (st : RSt) : Nat := (st.1.filter fun e => e.2).length + st.2.1.length
def countsP (rs : List (Int × Str × Int)) (st : RSt) : List Int :=
  [((cntP ["hit", "first"] rs : Nat) : Int), ((cntP ["late"] rs : Nat) : Int), ((cntP ["miss"] rs : Nat) : Int), ((cntP ["start"] rs : Nat) : Int), ((cntP ["first", "late"] rs : Nat) : Int), ((cntP ["waste"] rs : Nat) : Int), ((idleN st : Nat) : Int)]
section
variable {P : Program} {w : World} {K : PySem.W.Frag} {mg : Str → Option Value} {base : Heap} {f fI f1 f2 C CR : Addr} {fd fd1 fd2 : FuncData}
def spCount (K : PySem.W.Frag) (CR C : Addr) : Sp := fun vs H Q _ => ∃ (r dx h : Addr) (v : V) (cA lA aA rA st wl : Addr) (c : Cfg) (H0 : Hp) (s : RunS) (ws : List Str), vs = [.ref r, .ref wl] ∧ RunO K CR C c H0 H r dx h v cA lA aA rA st s ∧ SqL K H wl (ws.map V.str) ∧ s.rows.length ≤ 10000 ∧
  ∀ H', Same H H' → Q (.int ((cntP ws s.rows : Nat) : Int)) H'
theorem ok_Run_count (T : Nms mg) (KC_Run : ClassD K mg "Run" CR fI) (RC : RunC K CR) (F : Fun K "count" "Run.count" s_Run_count f fd) : FnOk P w K mg base CX0 1 f fd p_Run_count (spCount K CR C) := by
  refine F.ok sc_Run_count (fun vs H Q E h => ?_) (fun cdv A outer s H vs Q E hr h => ?_)
  · obtain ⟨r, dx, h, v, cA, lA, aA, rA, st, wl, c, H0, s, ws, rfl, _⟩ := h
    rfl
  obtain ⟨r, dx, h, v, cA, lA, aA, rA, st, wl, c, H0, s, ws, rfl, o, hw, hl, q⟩ := h
  refine ⟨_, (pss_one (ps_ret (pe_callB call_len_seq (by rfl) T.n_len (by decide +kernel) (pa_cons (pe_lc (own := [("row", 2)]) (g := gName 2) rfl sc_Run_count.nd (pi_list (pe_fld (pv 0) rfl)) (blkOk_by (own := [("row", 2)]) (N := N_Run_count) (sc := defScope s_Run_count) (by decide +kernel)) (fun _ _ _ _ _ => pg_name (i := 2) sc_Run_count.nd rfl (Or.inl rfl)) (fun _ _ _ _ _ => pts_one (pt_cmpR (in_seqK (K := K)) (pe_ix (ix_tupK (K := K)) (pv 2) pe_int (fun _ _ => rfl)) (pv 1) (by with_unfolding_all rfl))) (fun _ _ _ _ _ => (pv 2))) pa_nil)))), ?_⟩
  obtain ⟨ys, y1, y2⟩ := o.hrr
  have lys : ys.length = s.rows.length := Paired.length y2
  refine ⟨_, rfl, r, CR, dx, _, _, rfl, o.ob, KC_Run.cl, RC.rows, rfl, ?_⟩
  refine ⟨rA, rfl, ⟨_, sql y1⟩, fun D nD => ?_⟩
  refine lc_list (xs := ys.map V.ref) (fun j H2 => Same H H2 ∧ ∃ cs : List Addr, H2 D = some (.lst (cs.map V.ref)) ∧ cs.length = ((s.rows.take j).filter (fun e => decide (e.2.1 ∈ ws))).length) ⟨same_upd nD, [], upd_same, rfl⟩ (fun j H2 _ h => sql (h.1 _ _ y1)) (fun j y H2 hj h => ?_) (fun H2 h => ?_)
  · obtain ⟨s3, cs, eD, pc⟩ := h
    obtain ⟨u2, oo, rfl, hu2, tk2, eg2⟩ := pr_at (y2.imm (Imm.same s3)) hj
    obtain ⟨o1, o2, o3⟩ := oo
    have hu2 : SqT K H2 u2 [.int o1, .str o2, .int o3] := hu2
    and_intros
    refine ⟨wl, _, rfl, .inl (same_l s3 hw), rfl, flat_strs _, ?_⟩
    rw [inV_strs]
    rw [tk2, filter_snoc]
    by_cases co : o2 ∈ ws
    · refine ⟨_, rfl, ?_⟩
      refine iteB (decide_eq_true co) ?_
      have lc : cs.length ≤ s.rows.length := by
        rw [pc]
        refine Nat.le_trans (List.length_filter_le _ _) ?_
        rw [List.length_take]
        exact Nat.min_le_right _ _
      refine ⟨_, rfl, _, eD, by rw [List.length_map]; exact szl (by omega), same_mut s3 nD, cs ++ [u2], by rw [upd_same, List.map_append]; rfl, ?_⟩
      rw [if_pos (by simp [co]), List.length_append, List.length_append, pc]
      rfl
    · refine ⟨_, rfl, ?_⟩
      refine iteB0 (decide_eq_false co) ?_
      rw [if_neg (by simp [co]), List.append_nil]
      exact ⟨s3, cs, eD, pc⟩
  · obtain ⟨s3, cs, eD, pc⟩ := h
    rw [show s.rows.take (ys.map V.ref).length = s.rows by rw [List.length_map, lys]; exact List.take_length] at pc
    refine ⟨_, _, rfl, .inl (sql eD), ?_⟩
    rw [List.length_map, pc]
    exact q H2 s3
def spIdle (K : PySem.W.Frag) : Sp := fun vs H Q _ => ∃ (a : Addr) (s : RSt), vs = [.ref a] ∧ IsSt K H a s ∧ s.1.length ≤ 10000 ∧ s.2.1.length ≤ 10000 ∧ ∀ H', Same H H' → Q (.int ((idleN s : Nat) : Int)) H'
theorem ok_idle_in (T : Nms mg) (F : Fun K "idle_in" "idle_in" s_idle_in f fd) : FnOk P w K mg base CX0 1 f fd p_idle_in (spIdle K) := by
  refine F.ok sc_idle_in (fun vs H Q E h => ?_) (fun cdv A outer s H vs Q E hr h => ?_)
  · obtain ⟨a, s, rfl, _⟩ := h
    rfl
  obtain ⟨a, s, rfl, ⟨a1, a2, v, h1, ⟨as, h2, h3⟩, ⟨bs, h4, h5⟩, _⟩, l1, l2, q⟩ := h
  refine ⟨_, (pss_one (ps_ret (pe_op op_add (pe_callB call_len_seq (by rfl) T.n_len (by decide +kernel) (pa_cons (pe_lc (own := [("one", 1)]) (g := gName 1) rfl sc_idle_in.nd (pi_tup (pe_ix ix_tup (pv 0) pe_int (fun _ _ => rfl))) (blkOk_by (own := [("one", 1)]) (N := N_idle_in) (sc := defScope s_idle_in) (by decide +kernel)) (fun _ _ _ _ _ => pg_name (i := 1) sc_idle_in.nd rfl (Or.inl rfl)) (fun _ _ _ _ _ => pts_one (pt_val (pe_ix (ix_tupK (K := K)) (pv 1) pe_int (fun _ _ => rfl)))) (fun _ _ _ _ _ => (pv 1))) pa_nil)) (pe_callB call_len_seq (by rfl) T.n_len (by decide +kernel) (pa_cons (pe_ix ix_tup (pv 0) pe_int (fun _ _ => rfl)) pa_nil))))), ?_⟩
  have las : as.length = s.1.length := Paired.length h3
  have lbs : bs.length = s.2.1.length := Paired.length h5
  and_intros
  refine ⟨⟨_, h2⟩, fun D nD => ?_⟩
  refine lc_tup (xs := as.map V.ref) (fun j H2 => Same H H2 ∧ ∃ cs : List Addr, H2 D = some (.lst (cs.map V.ref)) ∧ cs.length = ((s.1.take j).filter (fun e => e.2)).length) ⟨same_upd nD, [], upd_same, rfl⟩ (fun j H2 _ h => same_t h.1 h2) (fun j y H2 hj h => ?_) (fun H2 h => ?_)
  · obtain ⟨s3, cs, eD, pc⟩ := h
    obtain ⟨u2, oo, rfl, hu2, tk2, eg2⟩ := pr_at (h3.imm (Imm.same s3)) hj
    obtain ⟨o1, o2⟩ := oo
    have hu2 : SqT K H2 u2 [.int o1, .bl o2] := hu2
    and_intros
    rw [tk2, filter_snoc]
    cases o2 with
    | true =>
      refine iteB rfl ?_
      have lc : cs.length ≤ s.1.length := by
        rw [pc]
        refine Nat.le_trans (List.length_filter_le _ _) ?_
        rw [List.length_take]
        exact Nat.min_le_right _ _
      refine ⟨_, rfl, _, eD, by rw [List.length_map]; exact szl (by omega), same_mut s3 nD, cs ++ [u2], by rw [upd_same, List.map_append]; rfl, ?_⟩
      rw [if_pos rfl, List.length_append, List.length_append, pc]
      rfl
    | false =>
      refine iteB0 rfl ?_
      rw [if_neg (by simp), List.append_nil]
      exact ⟨s3, cs, eD, pc⟩
  · obtain ⟨s3, cs, eD, pc⟩ := h
    rw [show s.1.take (as.map V.ref).length = s.1 by rw [List.length_map, las]; exact List.take_length] at pc
    have h1' := same_t s3 h1
    have h4' := same_t s3 h4
    refine ⟨_, _, rfl, .inl (sql eD), ?_⟩
    and_intros
    have e : (((cs.map V.ref).length : Nat) : Int) + (((bs.map V.ref).length : Nat) : Int) = ((idleN s : Nat) : Int) := by
      rw [List.length_map, List.length_map, pc, lbs]
      unfold idleN
      omega
    show Q (.int ((((cs.map V.ref).length : Nat) : Int) + (((bs.map V.ref).length : Nat) : Int))) H2
    rw [e]
    exact q H2 s3
def spCounts (K : PySem.W.Frag) (CR C : Addr) : Sp := fun vs H Q _ => ∃ (r dx h : Addr) (v : V) (cA lA aA rA st : Addr) (c : Cfg) (H0 : Hp) (s : RunS), vs = [.ref r] ∧ RunO K CR C c H0 H r dx h v cA lA aA rA st s ∧ s.rows.length ≤ 10000 ∧ s.st.1.length ≤ 10000 ∧ s.st.2.1.length ≤ 10000 ∧
  ∀ t H', Same H H' → SqT K H' t ((countsP s.rows s.st).map V.int) → Q (.ref t) H'
theorem ok_Run_counts (T : Nms mg) (KC_Run : ClassD K mg "Run" CR fI) (RC : RunC K CR) (D_Run_count : Mf K CR "count" "Run.count" s_Run_count p_Run_count f1 fd1) (D_idle_in : Df K mg "idle_in" s_idle_in p_idle_in f2 fd2) (F : Fun K "counts" "Run.counts" s_Run_counts f fd) : FnOk P w K mg base CX0 2 f fd p_Run_counts (spCounts K CR C) := by
  have G_Run_count : FnOk P w K mg base CX0 1 f1 fd1 p_Run_count (spCount K CR C) := ok_Run_count T KC_Run RC D_Run_count.F
  have G_idle_in : FnOk P w K mg base CX0 1 f2 fd2 p_idle_in (spIdle K) := ok_idle_in T D_idle_in.F
  refine F.ok sc_Run_counts (fun vs H Q E h => ?_) (fun cdv A outer s H vs Q E hr h => ?_)
  · obtain ⟨r, dx, h, v, cA, lA, aA, rA, st, c, H0, s, rfl, _⟩ := h
    rfl
  obtain ⟨r, dx, h, v, cA, lA, aA, rA, st, c, H0, s, rfl, o, hl, l1, l2, q⟩ := h
  refine ⟨_, (pss_cons (ps_set (i := 1) sc_Run_counts.nd rfl (Or.inl rfl) (pe_tup (pa_cons (pe_meth (pv 0) KC_Run.cl D_Run_count.m G_Run_count (hr.mono (by first | decide | omega)) D_Run_count.b .nil pass0 (pa_cons (pe_lst (pa_cons pe_str (pa_cons pe_str pa_nil))) pa_nil)) (pa_cons (pe_meth (pv 0) KC_Run.cl D_Run_count.m G_Run_count (hr.mono (by first | decide | omega)) D_Run_count.b .nil pass0 (pa_cons (pe_lst (pa_cons pe_str pa_nil)) pa_nil)) (pa_cons (pe_meth (pv 0) KC_Run.cl D_Run_count.m G_Run_count (hr.mono (by first | decide | omega)) D_Run_count.b .nil pass0 (pa_cons (pe_lst (pa_cons pe_str pa_nil)) pa_nil)) pa_nil)))))
  (pss_cons (ps_set (i := 2) sc_Run_counts.nd rfl (Or.inl rfl) (pe_meth (pv 0) KC_Run.cl D_Run_count.m G_Run_count (hr.mono (by first | decide | omega)) D_Run_count.b .nil pass0 (pa_cons (pe_lst (pa_cons pe_str (pa_cons pe_str pa_nil))) pa_nil)))
  (pss_one (ps_ret (pe_op op_catA (pv 1) (pe_tup (pa_cons (pe_meth (pv 0) KC_Run.cl D_Run_count.m G_Run_count (hr.mono (by first | decide | omega)) D_Run_count.b .nil pass0 (pa_cons (pe_lst (pa_cons pe_str pa_nil)) pa_nil)) (pa_cons (pv 2) (pa_cons (pe_meth (pv 0) KC_Run.cl D_Run_count.m G_Run_count (hr.mono (by first | decide | omega)) D_Run_count.b .nil pass0 (pa_cons (pe_lst (pa_cons pe_str pa_nil)) pa_nil)) (pa_cons (pe_call G_idle_in (hr.mono (by first | decide | omega)) (by rfl) D_idle_in.m D_idle_in.F.kp D_idle_in.b .nil pass0 (pa_cons (pe_fld (pv 0) rfl) pa_nil)) pa_nil)))))))))), ?_⟩
  refine ⟨_, rfl, r, dx, _, rfl, o.ob, rfl, ?_⟩
  and_intros
  intro p1 n1
  refine ⟨r, dx, h, v, cA, lA, aA, rA, st, p1, c, H0, s, ["hit", "first"], rfl, o.same (same_upd n1), sql upd_same, hl, fun H1 s1 => ?_⟩
  have s1 := (same_upd n1).trans s1
  refine ⟨_, rfl, r, dx, _, rfl, (o.same s1).ob, rfl, ?_⟩
  and_intros
  intro p2 n2
  refine ⟨r, dx, h, v, cA, lA, aA, rA, st, p2, c, H0, s, ["late"], rfl, o.same (s1.trans (same_upd n2)), sql upd_same, hl, fun H2 s2 => ?_⟩
  have s2 := (s1.trans (same_upd n2)).trans s2
  refine ⟨_, rfl, r, dx, _, rfl, (o.same s2).ob, rfl, ?_⟩
  and_intros
  intro p3 n3
  refine ⟨r, dx, h, v, cA, lA, aA, rA, st, p3, c, H0, s, ["miss"], rfl, o.same (s2.trans (same_upd n3)), sql upd_same, hl, fun H3 s3 => ?_⟩
  have s3 := (s2.trans (same_upd n3)).trans s3
  and_intros
  intro t4 n4
  have s4 := s3.trans (same_upd (o := .tup [.int ((cntP ["hit", "first"] s.rows : Nat) : Int), .int ((cntP ["late"] s.rows : Nat) : Int), .int ((cntP ["miss"] s.rows : Nat) : Int)]) n4)
  have e4 : SqT K (upd H3 t4 (.tup [.int ((cntP ["hit", "first"] s.rows : Nat) : Int), .int ((cntP ["late"] s.rows : Nat) : Int), .int ((cntP ["miss"] s.rows : Nat) : Int)])) t4 [.int ((cntP ["hit", "first"] s.rows : Nat) : Int), .int ((cntP ["late"] s.rows : Nat) : Int), .int ((cntP ["miss"] s.rows : Nat) : Int)] := sqt upd_same
  generalize upd H3 t4 (.tup [.int ((cntP ["hit", "first"] s.rows : Nat) : Int), .int ((cntP ["late"] s.rows : Nat) : Int), .int ((cntP ["miss"] s.rows : Nat) : Int)]) = H4 at s4 e4 ⊢
  refine ⟨_, rfl, r, dx, _, rfl, (o.same s4).ob, rfl, ?_⟩
  and_intros
  intro p5 n5
  refine ⟨r, dx, h, v, cA, lA, aA, rA, st, p5, c, H0, s, ["first", "late"], rfl, o.same (s4.trans (same_upd n5)), sql upd_same, hl, fun H5 s5 => ?_⟩
  have s45 := (same_upd n5).trans s5
  have s5 := s4.trans s45
  have e5 := same_t s45 e4
  refine ⟨_, rfl, _, rfl, r, dx, _, rfl, (o.same s5).ob, rfl, ?_⟩
  and_intros
  intro p6 n6
  refine ⟨r, dx, h, v, cA, lA, aA, rA, st, p6, c, H0, s, ["start"], rfl, o.same (s5.trans (same_upd n6)), sql upd_same, hl, fun H6 s6 => ?_⟩
  have s56 := (same_upd n6).trans s6
  have s6 := s5.trans s56
  have e6 := same_t s56 e5
  and_intros
  refine ⟨r, dx, _, rfl, (o.same s6).ob, rfl, ?_⟩
  and_intros
  intro p7 n7
  refine ⟨r, dx, h, v, cA, lA, aA, rA, st, p7, c, H0, s, ["waste"], rfl, o.same (s6.trans (same_upd n7)), sql upd_same, hl, fun H7 s7 => ?_⟩
  have s67 := (same_upd n7).trans s7
  have s7 := s6.trans s67
  have e7 := same_t s67 e6
  refine ⟨_, rfl, r, CR, dx, _, _, rfl, (o.same s7).ob, KC_Run.cl, RC.state, rfl, ?_⟩
  refine ⟨st, s.st, rfl, (o.same s7).hst, l1, l2, fun H8 s8 => ?_⟩
  have e8 := same_t s8 e7
  and_intros
  intro t9 n9
  refine catA_ok (same_t (same_upd n9) e8) (sqt upd_same) (by show 3 + 4 ≤ sizeLine; decide) fun p10 H10 s10 h10 => ?_
  exact q p10 H10 (((s7.trans s8).trans (same_upd n9)).trans s10) h10
end
end St

namespace St
open PySem PySem.Spec PyProof.Rows L2
/-! ### deeds of any form -/
/-- no deed at all, or a word and ints -/
abbrev OD := Option (Str × List Int)
def odV : OD → List V
  | none => []
  | some (w, ns) => .str w :: ns.map V.int
def isD (pl : Int) : OD → Bool
  | some (w, [p]) => decide (w = "read") && (decide (0 ≤ p) && decide (p < pl))
  | some (w, [p, v]) => decide (w = "write") && ((decide (0 ≤ p) && decide (p < pl)) && (decide (0 ≤ v) && decide (v ≤ 99)))
  | _ => false
def OD.Few : OD → Prop
  | none => True
  | some (_, ns) => ns.length ≤ 2
def odOf : Deed → OD
  | (p, none) => some ("read", [p])
  | (p, some v) => some ("write", [p, v])
theorem few_of : ∀ d : Deed, (odOf d).Few
  | (_, none) => by show 1 ≤ 2; omega
  | (_, some _) => by show 2 ≤ 2; omega
theorem isDeed_od {K : PySem.W.Frag} {H : Hp} {a : Addr} : ∀ d : Deed, IsDeed K H a d ↔ SqT K H a (odV (odOf d))
  | (_, none) => Iff.rfl
  | (_, some _) => Iff.rfl
theorem isD_of {pl : Int} : ∀ d : Deed, Deed.Good pl d → isD pl (odOf d) = true
  | (p, none), ⟨a, b⟩ => by
    show (decide (("read" : Str) = "read") && (decide (0 ≤ p) && decide (p < pl))) = true
    rw [decide_eq_true rfl, decide_eq_true a, decide_eq_true b]; rfl
  | (p, some v), ⟨⟨a, b⟩, c, d⟩ => by
    show (decide (("write" : Str) = "write") && ((decide (0 ≤ p) && decide (p < pl)) && (decide (0 ≤ v) && decide (v ≤ 99)))) = true
    rw [decide_eq_true rfl, decide_eq_true a, decide_eq_true b, decide_eq_true c, decide_eq_true d]; rfl
theorem of_isD {pl : Int} : ∀ o : OD, isD pl o = true → ∃ d : Deed, o = odOf d ∧ Deed.Good pl d
  | none, h => by cases h
  | some (w, []), h => by cases h
  | some (w, [p]), h => by
    have h' : (decide (w = "read") && (decide (0 ≤ p) && decide (p < pl))) = true := h
    simp only [Bool.and_eq_true, decide_eq_true_eq] at h'
    obtain ⟨e, h'⟩ := h'
    subst e
    exact ⟨(p, none), rfl, h'⟩
  | some (w, [p, v]), h => by
    have h' : (decide (w = "write") && ((decide (0 ≤ p) && decide (p < pl)) && (decide (0 ≤ v) && decide (v ≤ 99)))) = true := h
    simp only [Bool.and_eq_true, decide_eq_true_eq] at h'
    obtain ⟨e, h'⟩ := h'
    subst e
    exact ⟨(p, some v), rfl, h'⟩
  | some (w, _ :: _ :: _ :: _), h => by cases h
def PrO (K : PySem.W.Frag) (H : Hp) (as : List Addr) (os : List OD) : Prop := Paired (fun (p : Addr) (o : OD) => SqT K H p (odV o)) as os
theorem PrO.imm {K : PySem.W.Frag} {H H' : Hp} {as : List Addr} {os : List OD} (h : PrO K H as os) (e : Imm H H') : PrO K H' as os := Paired.mapP h fun _ _ z => e.t z
theorem PrO.of {K : PySem.W.Frag} {H : Hp} : ∀ {as : List Addr} {ds : List Deed}, PrD K H as ds → PrO K H as (ds.map odOf)
  | _, _, .nil => .nil
  | _, _, .cons h t => .cons ((isDeed_od _).mp h) (PrO.of t)
/-- the deed at i is one, and not too late -/
def GoodAt (pl : Int) (os : List OD) (i : Nat) : Prop := i < 100 ∧ ∃ o, os[i]? = some o ∧ isD pl o = true
/-- the first that is none -/
def FirstBad (pl : Int) (os : List OD) (i : Nat) : Prop := i < os.length ∧ (∀ j, j < i → GoodAt pl os j) ∧ ¬ GoodAt pl os i
def AllGood (pl : Int) (os : List OD) : Prop := ∀ j, j < os.length → GoodAt pl os j
theorem bad_or (pl : Int) (os : List OD) : AllGood pl os ∨ ∃ i, FirstBad pl os i := by
  have key : ∀ n, n ≤ os.length → (∀ j, j < n → GoodAt pl os j) ∨ ∃ i, FirstBad pl os i := by
    intro n
    induction n with
    | zero => exact fun _ => .inl fun j hj => by omega
    | succ n ih =>
      intro hn
      rcases ih (by omega) with h | h
      · rcases Classical.em (GoodAt pl os n) with g | g
        · refine .inl fun j hj => ?_
          rcases Nat.lt_succ_iff_lt_or_eq.mp hj with q | q
          · exact h j q
          · rw [q]; exact g
        · exact .inr ⟨n, by omega, h, g⟩
      · exact .inr h
  exact key os.length (Nat.le_refl _)
theorem bad_one {pl : Int} {os : List OD} {i j : Nat} (a : FirstBad pl os i) (b : FirstBad pl os j) : i = j := by
  rcases Nat.lt_trichotomy i j with h | h | h
  · exact absurd (b.2.1 i h) a.2.2
  · exact h
  · exact absurd (a.2.1 j h) b.2.2
theorem all_not {pl : Int} {os : List OD} {i : Nat} (a : AllGood pl os) (b : FirstBad pl os i) : False := b.2.2 (a i b.1)
theorem all_len {pl : Int} {os : List OD} (a : AllGood pl os) : os.length ≤ 100 := by
  rcases Nat.lt_or_ge 100 os.length with h | h
  · have := (a 100 h).1; omega
  · exact h
theorem all_deeds {pl : Int} {os : List OD} (a : AllGood pl os) : ∃ ds : List Deed, os = ds.map odOf ∧ ∀ d ∈ ds, Deed.Good pl d := by
  have key : ∀ l : List OD, (∀ o ∈ l, isD pl o = true) → ∃ ds : List Deed, l = ds.map odOf ∧ ∀ d ∈ ds, Deed.Good pl d := by
    intro l
    induction l with
    | nil => exact fun _ => ⟨[], rfl, fun _ h => nomatch h⟩
    | cons o r ih =>
      intro h
      obtain ⟨ds, e, g⟩ := ih fun x hx => h x (List.mem_cons_of_mem _ hx)
      obtain ⟨d, e1, g1⟩ := of_isD o (h o List.mem_cons_self)
      refine ⟨d :: ds, by rw [e, e1]; rfl, fun x hx => ?_⟩
      rcases List.mem_cons.mp hx with rfl | hx
      · exact g1
      · exact g x hx
  refine key os fun o ho => ?_
  obtain ⟨i, hi, e⟩ := List.mem_iff_getElem.mp ho
  obtain ⟨_, o', e1, e2⟩ := a i hi
  rw [List.getElem?_eq_getElem hi] at e1
  cases Option.some.inj e1
  rw [← e]
  exact e2
theorem PrO.deeds {K : PySem.W.Frag} {H : Hp} : ∀ {as : List Addr} {ds : List Deed}, PrO K H as (ds.map odOf) → PrD K H as ds
  | [], [], .nil => .nil
  | _ :: _, _ :: _, .cons h t => .cons ((isDeed_od _).mpr h) (PrO.deeds t)
theorem pro_at {K : PySem.W.Frag} {H : Hp} : ∀ {as : List Addr} {os : List OD} {i : Nat} {x : V}, PrO K H as os → (as.map V.ref)[i]? = some x → ∃ u o, x = .ref u ∧ SqT K H u (odV o) ∧ as[i]? = some u ∧ os[i]? = some o
  | _, _, 0, _, .cons h _, e => ⟨_, _, (Option.some.inj e).symm, h, rfl, rfl⟩
  | _, _, i + 1, _, .cons _ t, e => pro_at (i := i) t e
  | _, _, 0, _, .nil, e => nomatch e
  | _, _, _ + 1, _, .nil, e => nomatch e
section
variable {P : Program} {w : World} {K : PySem.W.Frag} {mg : Str → Option Value} {base : Heap} {f f1 f2 f3 f4 C dS dM CR CW fR : Addr} {fd fd1 fd2 fd3 fd4 fdR : FuncData}
def spIsDX (K : PySem.W.Frag) : Sp := fun vs H Q _ => ∃ (a : Addr) (pl : Int) (o : OD), vs = [.int pl, .ref a] ∧ SqT K H a (odV o) ∧ o.Few ∧ Q (.bl (isD pl o)) H
theorem okX_is_deed (T : Nms mg) (Cn : Cns mg) (F : Fun K "is_deed" "is_deed" s_is_deed f fd) : FnOk P w K mg base CX0 1 f fd p_is_deed (spIsDX K) := by
  refine F.ok sc_is_deed (fun vs H Q E h => ?_) (fun cdv A outer s H vs Q E hr h => ?_)
  · obtain ⟨a, pl, o, rfl, _⟩ := h
    rfl
  obtain ⟨a, pl, o, rfl, hd, few, q⟩ := h
  refine ⟨_, (pss_cons (ps_if (PW.pt (pw_and (pt_cmpR op_eq (pe_callB call_len_seq (by rfl) T.n_len (by decide +kernel) (pa_cons (pv 1) pa_nil)) pe_int (nomark _)) (pw_and1 (pt_cmpR op_eq (pe_ix ix_tup (pv 1) pe_int (fun _ _ => rfl)) pe_str (nomark _)))))
    (pss_one (ps_ret (pe_chain op_le op_lt pe_int (pe_ix ix_tup (pv 1) pe_int (fun _ _ => rfl)) (pv 0))))
    (pss_nil))
  (pss_cons (ps_if (PW.pt (pw_or (pt_cmpR op_ne (pe_callB call_len_seq (by rfl) T.n_len (by decide +kernel) (pa_cons (pv 1) pa_nil)) pe_int (nomark _)) (pw_or1 (pt_cmpR op_ne (pe_ix ix_tup (pv 1) pe_int (fun _ _ => rfl)) pe_str (nomark _)))))
    (pss_one (ps_ret pe_bl))
    (pss_nil))
  (pss_one (ps_ret (pe_and (pe_chain op_le op_lt pe_int (pe_ix ix_tup (pv 1) pe_int (fun _ _ => rfl)) (pv 0)) (pe_one (pe_chain op_le op_le pe_int (pe_ix ix_tup (pv 1) pe_int (fun _ _ => rfl)) (pe_gint (by rfl) Cn.MOST_NUMBER)))))))), ?_⟩
  rcases o with _ | ⟨w, _ | ⟨p, _ | ⟨v, _ | ⟨u, r⟩⟩⟩⟩
  · have hd : SqT K H a [] := hd
    refine ⟨_, rfl, _, _, rfl, .inr hd, rfl, _, rfl, iteB0 rfl ?_⟩
    refine ⟨_, rfl, _, _, rfl, .inr hd, rfl, _, rfl, iteB rfl ?_⟩
    exact q
  · have hd : SqT K H a [.str w] := hd
    refine ⟨_, rfl, _, _, rfl, .inr hd, rfl, _, rfl, iteB0 rfl ?_⟩
    refine ⟨_, rfl, _, _, rfl, .inr hd, rfl, _, rfl, iteB rfl ?_⟩
    exact q
  · have hd : SqT K H a [.str w, .int p] := hd
    have q : Q (V.bl (decide (w = "read") && (decide (0 ≤ p) && decide (p < pl)))) H := q
    refine ⟨_, rfl, _, _, rfl, .inr hd, rfl, _, rfl, iteB rfl ?_⟩
    refine ⟨_, rfl, _, _, _, _, rfl, rfl, hd, atI_nat (j := 0) rfl, rfl, _, rfl, ?_⟩
    by_cases c : w = "read"
    · refine iteB (decide_eq_true (congrArg V.str c)) ?_
      rw [decide_eq_true c] at q
      and_intros
      by_cases c1 : 0 ≤ p
      · rw [decide_eq_true c1] at q
        refine iteB (decide_eq_true c1) ?_
        exact ⟨_, rfl, _, _, rfl, rfl, q⟩
      · rw [decide_eq_false c1] at q
        exact iteB0 (decide_eq_false c1) q
    · refine iteB0 (decide_eq_false fun x => c (V.str.inj x)) ?_
      rw [decide_eq_false c] at q
      refine ⟨_, rfl, _, _, rfl, .inr hd, rfl, _, rfl, iteB rfl ?_⟩
      exact q
  · have hd : SqT K H a [.str w, .int p, .int v] := hd
    have q : Q (V.bl (decide (w = "write") && ((decide (0 ≤ p) && decide (p < pl)) && (decide (0 ≤ v) && decide (v ≤ 99))))) H := q
    refine ⟨_, rfl, _, _, rfl, .inr hd, rfl, _, rfl, iteB0 rfl ?_⟩
    refine ⟨_, rfl, _, _, rfl, .inr hd, rfl, _, rfl, iteB0 rfl ?_⟩
    refine ⟨_, rfl, _, _, _, _, rfl, rfl, hd, atI_nat (j := 0) rfl, rfl, _, rfl, ?_⟩
    by_cases c : w = "write"
    · refine iteB0 (by rw [decide_eq_true (congrArg V.str c)]; rfl) ?_
      rw [decide_eq_true c] at q
      and_intros
      by_cases c1 : 0 ≤ p
      · rw [decide_eq_true c1] at q
        refine iteB (decide_eq_true c1) ?_
        refine ⟨_, rfl, _, _, rfl, rfl, _, rfl, ?_⟩
        by_cases c2 : p < pl
        · rw [decide_eq_true c2] at q ⊢
          refine iteB rfl ?_
          and_intros
          by_cases c3 : 0 ≤ v
          · rw [decide_eq_true c3] at q
            refine iteB (decide_eq_true c3) ?_
            exact ⟨_, _, rfl, rfl, q⟩
          · rw [decide_eq_false c3] at q
            exact iteB0 (decide_eq_false c3) q
        · rw [decide_eq_false c2] at q ⊢
          exact iteB0 rfl q
      · rw [decide_eq_false c1] at q
        refine iteB0 (decide_eq_false c1) ?_
        exact ⟨_, rfl, iteB0 rfl q⟩
    · refine iteB (by rw [decide_eq_false (fun x => c (V.str.inj x))]; rfl) ?_
      rw [decide_eq_false c] at q
      exact q
  · exact absurd few (by show ¬ (r.length + 3 ≤ 2); omega)
def spNeedRowX (K : PySem.W.Frag) (CR : Addr) : Sp := fun vs H Q E => ∃ (a : Addr) (as : List Addr) (pl : Int) (os : List OD), vs = [.int pl, .ref a] ∧ SqL K H a (as.map V.ref) ∧ PrO K H as os ∧ (∀ o ∈ os, o.Few) ∧ os.length ≤ 1000 ∧
  (AllGood pl os → Q .non H) ∧ ∀ i, FirstBad pl os i → errF CR "number" (.int ((i : Nat) : Int)) H E
theorem okX_need_row (T : Nms mg) (Cn : Cns mg) (WC : WellC K mg CW) (XE_BadRow : ErrX K mg "BadRow" CR CW) (XI_BadRow : ErrI K "number" CR fR) (D_BadRow___init__ : Ef K "BadRow.__init__" s_BadRow___init__ p_BadRow___init__ fR fdR) (D_is_deed : Df K mg "is_deed" s_is_deed p_is_deed f1 fd1) (F : Fun K "need_row" "need_row" s_need_row f fd) : FnOk P w K mg base (L2.CX P w) 4 f fd p_need_row (spNeedRowX K CR) := by
  have G_is_deed : FnOk P w K mg base CX0 1 f1 fd1 p_is_deed (spIsDX K) := okX_is_deed T Cn D_is_deed.F
  have G_BadRow___init__ : FnOk P w K mg base CX0 1 fR fdR p_BadRow___init__ (spInit CR "number") := ok_BadRow___init__ WC XE_BadRow XI_BadRow D_BadRow___init__.F
  refine F.okX sc_need_row (fun vs H Q E h => ?_) (fun cdv A outer s H vs Q E hr h => ?_)
  · obtain ⟨a, as, pl, os, rfl, _⟩ := h
    rfl
  obtain ⟨a, as, pl, os, rfl, hs, po, few, hl, q, qe⟩ := h
  refine ⟨_, (pss_one (ps_for (passes_of rfl) rfl (pi_range1 rfl T.n_range (pa_cons (pe_callB call_len_seq (by rfl) T.n_len (by decide +kernel) (pa_cons (pv 1) pa_nil)) pa_nil)) (pg_name (i := 2) sc_need_row.nd rfl (Or.inl rfl))
    (pss_one (ps_if (PW.pt (pw_or (pt_cmpR op_ge (pv 2) (pe_gint (by rfl) Cn.MOST_DEEDS) (nomark _)) (pw_or1 (pt_not (pt_val (pe_call G_is_deed (hr.mono (by first | decide | omega)) (by rfl) D_is_deed.m D_is_deed.F.kp D_is_deed.b .nil pass0 (pa_cons (pv 0) (pa_cons (pe_ix ix_list (pv 1) (pv 2) (fun _ _ => rfl)) pa_nil))))))))
      (pss_one (ps_raise rfl (takes_of rfl rfl rfl rfl) (pmk_oex (XE_BadRow.oex XI_BadRow) XI_BadRow.iC XI_BadRow.tI G_BadRow___init__ (hr.mono (by first | decide | omega)) D_BadRow___init__.b .nil pass0 rfl XE_BadRow.g (pa_cons (pv 2) pa_nil))))
      (pss_nil))))), ?_⟩
  have las : as.length = os.length := Paired.length po
  refine ⟨_, rfl, _, _, rfl, .inl hs, _, rfl, by omega, by rw [List.length_map]; omega, ?_⟩
  rw [show ((((as.map V.ref).length : Nat) : Int)).toNat = as.length by rw [List.length_map]; exact Int.toNat_natCast _]
  refine for_range (lo := 0) (n := as.length) (fun i σ H' => ∃ y2, σ = [some (.int pl), some (.ref a), y2] ∧ H = H' ∧ ∀ j, j < i → GoodAt pl os j) ⟨none, rfl, rfl, fun j hj => by omega⟩ (fun i σ H' hi h => ?_) (fun σ H' h => ?_)
  · obtain ⟨y2, rfl, rfl, hb⟩ := h
    have hi' : i < os.length := by omega
    have ez : (0 + (i : Int)) = ((i : Nat) : Int) := by omega
    rw [ez]
    have fail : ¬ GoodAt pl os i → errF CR "number" (.int ((i : Nat) : Int)) H E := fun n => qe i ⟨hi', hb, n⟩
    have ea : (as.map V.ref)[i]? = some (.ref as[i]) := by rw [List.getElem?_map, List.getElem?_eq_getElem hi]; rfl
    obtain ⟨u, o, eu, hu, _, eo⟩ := pro_at po ea
    cases eu
    refine ⟨_, rfl, _, _, rfl, rfl, _, rfl, ?_⟩
    by_cases c : i < 100
    · refine iteB0 (decide_eq_false (by omega)) ?_
      refine ⟨_, rfl, _, rfl, _, rfl, _, _, _, _, rfl, rfl, hs, atI_nat ea, ?_⟩
      refine ⟨as[i], pl, o, rfl, hu, few _ (List.mem_of_getElem? eo), ?_⟩
      cases d : isD pl o with
      | true =>
        refine ⟨_, rfl, iteB0 (b := !true) rfl ?_⟩
        refine ⟨_, rfl, rfl, fun j hj => ?_⟩
        rcases Nat.lt_succ_iff_lt_or_eq.mp hj with z | rfl
        · exact hb j z
        · exact ⟨c, o, eo, d⟩
      | false =>
        refine ⟨_, rfl, iteB (b := !false) rfl ?_⟩
        exact ⟨_, rfl, init_err (fail fun ⟨_, o', e1, e2⟩ => by rw [eo] at e1; cases Option.some.inj e1; rw [d] at e2; cases e2)⟩
    · refine iteB (decide_eq_true (by omega)) ?_
      exact ⟨_, rfl, init_err (fail fun g => c g.1)⟩
  · obtain ⟨y2, rfl, rfl, hb⟩ := h
    exact q fun j hj => hb j (by omega)
end
end St

namespace St
open PySem PySem.Spec PyProof.Rows L2
abbrev s_run : Stmt := topS 40
abbrev N_run : List Str := ["setting", "guesser", "row", "done"]
abbrev p_run : List Str := ["setting", "guesser", "row"]
theorem sc_run : FnScope N_run p_run (defScope s_run) := ⟨rfl, rfl, rfl, by decide +kernel, rfl, by decide +kernel, by decide +kernel⟩
abbrev s_story : Stmt := topS 41
abbrev N_story : List Str := ["setting", "guesser", "row"]
abbrev p_story : List Str := ["setting", "guesser", "row"]
theorem sc_story : FnScope N_story p_story (defScope s_story) := ⟨rfl, rfl, rfl, by decide +kernel, rfl, by decide +kernel, by decide +kernel⟩
/-- the errors that a row or an asking meets -/
structure ErrCo (K : PySem.W.Frag) (mg : Str → Option Value) (CA CB CW : Addr) where
  {fR : Addr}
  {fdR : FuncData}
  WC : WellC K mg CW
  XE_BadRow : ErrX K mg "BadRow" CB CW
  XI_BadRow : ErrI K "number" CB fR
  D_BadRow___init__ : Ef K "BadRow.__init__" s_BadRow___init__ p_BadRow___init__ fR fdR
  XE_BadAsk : ErrX K mg "BadAsk" CA CW
  XP_BadAsk : ErrP K CA
/-- a row of any deeds, in memory -/
structure IsRow (K : PySem.W.Frag) (H : Hp) (a : Addr) (as : List Addr) (os : List OD) : Prop where
  l : SqL K H a (as.map V.ref)
  p : PrO K H as os
  few : ∀ o ∈ os, o.Few
  len : os.length ≤ 1000
theorem IsRow.same {K : PySem.W.Frag} {H H' : Hp} {a : Addr} {as : List Addr} {os : List OD} (h : IsRow K H a as os) (s : Same H H') : IsRow K H' a as os := ⟨same_l s h.l, h.p.imm (Imm.same s), h.few, h.len⟩
section
variable {P : Program} {w : World} {K : PySem.W.Frag} {mg : Str → Option Value} {base : Heap} {f f1 f2 f3 f4 C CR CA CB CW : Addr} {fd fd1 fd2 fd3 fd4 : FuncData}
def spNeedAllX (K : PySem.W.Frag) (CB : Addr) : Sp := fun vs H Q E => ∃ (b a : Addr) (v : V) (s : Stg) (g : G) (as : List Addr) (os : List OD), vs = [.ref b, v, .ref a] ∧ IsSet K H b s ∧ s.Good ∧ IsG K H g v ∧ good 3 g = true ∧ IsRow K H a as os ∧
  (AllGood ((s.mem.length : Nat) : Int) os → ∀ H', Same H H' → Q .non H') ∧ ∀ i, FirstBad ((s.mem.length : Nat) : Int) os i → errF CB "number" (.int ((i : Nat) : Int)) H E
theorem okX_need_all (N : NeedCo K w mg) (Er : ErrCo K mg CA CB CW) : FnOk P w K mg base (L2.CX P w) 8 N.fF N.fdF p_need_all (spNeedAllX K CB) := by
  have T := N.T
  have D_need_guesser := N.D_need_guesser
  have D_need_setting := N.D_need_setting
  have D_need_row := N.D_need_row
  have G_need_guesser : FnOk P w K mg base CX0 6 N.fB N.fdB p_need_guesser (spNeedG K) := ok_need_guesser T N.B N.D_is_guesser D_need_guesser
  have G_need_setting : FnOk P w K mg base CX0 1 N.fC N.fdC p_need_setting (spNeedSet K) := ok_need_setting T N.Cn D_need_setting.F
  have G_need_row : FnOk P w K mg base (L2.CX P w) 4 N.fE N.fdE p_need_row (spNeedRowX K CB) := okX_need_row T N.Cn Er.WC Er.XE_BadRow Er.XI_BadRow Er.D_BadRow___init__ N.D_is_deed D_need_row.F
  refine N.D_need_all.F.okX sc_need_all (fun vs H Q E h => ?_) (fun cdv A outer s H vs Q E hr h => ?_)
  · obtain ⟨b, a, v, s, g, as, os, rfl, _⟩ := h
    rfl
  obtain ⟨b, a, v, s, g, as, os, rfl, hS, gS, hG, hg, hR, q, qe⟩ := h
  refine ⟨_, (pss_cons (ps_expr (pe_call G_need_setting (hr.mono (by first | decide | omega)) (by rfl) D_need_setting.m D_need_setting.F.kp D_need_setting.b .nil pass0 (pa_cons (pv 0) pa_nil)))
  (pss_cons (ps_expr (pe_call G_need_guesser (hr.mono (by first | decide | omega)) (by rfl) D_need_guesser.m D_need_guesser.F.kp D_need_guesser.b .nil pass0 (pa_cons (pv 1) pa_nil)))
  (pss_one (ps_expr (pe_callS G_need_row (hr.mono (by first | decide | omega)) (by rfl) D_need_row.m D_need_row.F.kp D_need_row.b (fun σ => passAt (takes_of rfl rfl rfl rfl) σ) (pa_cons (pe_callB call_len_seq (by rfl) T.n_len (by decide +kernel) (pa_cons (pe_ix ix_tup (pv 0) pe_int (fun _ _ => rfl)) pa_nil)) (pa_cons (pv 2) pa_nil))))))), ?_⟩
  have el : (((s.mem.map V.int).length : Nat) : Int) = ((s.mem.length : Nat) : Int) := by rw [List.length_map]
  refine ⟨_, rfl, b, s, rfl, hS, gS, fun H1 s1 => ?_⟩
  refine ⟨_, rfl, v, g, rfl, hG.same s1, hg, fun H2 s2 => ?_⟩
  obtain ⟨m, m1, m2⟩ := hS.imm (Imm.same (s1.trans s2))
  have hR2 := hR.same (s1.trans s2)
  refine ⟨_, rfl, _, _, _, _, rfl, rfl, m1, atI_nat (j := 0) rfl, _, _, rfl, .inr m2, _, rfl, ?_⟩
  refine ⟨a, as, _, os, rfl, hR2.l, hR2.p, hR2.few, hR2.len, fun ag => ?_, fun i fb => ?_⟩
  · rw [el] at ag
    exact q ag _ (s1.trans s2)
  · rw [el] at fb
    exact (qe i fb).after (s1.trans s2)
def spRunX (K : PySem.W.Frag) (CB : Addr) : Sp := fun vs H Q E => ∃ (b a : Addr) (v : V) (s : Stg) (g : G) (as : List Addr) (os : List OD), vs = [.ref b, v, .ref a] ∧ IsSet K H b s ∧ s.Good ∧ IsG K H g v ∧ good 3 g = true ∧ IsRow K H a as os ∧
  (AllGood ((s.mem.length : Nat) : Int) os → ∀ u H', Same H H' → Q u H') ∧ ∀ i, FirstBad ((s.mem.length : Nat) : Int) os i → errF CB "number" (.int ((i : Nat) : Int)) H E
theorem okX_run (N : NeedCo K w mg) (S : RunCo K mg C CR) (Er : ErrCo K mg CA CB CW) (D_Run_count : Mf K CR "count" "Run.count" s_Run_count p_Run_count f1 fd1) (D_Run_counts : Mf K CR "counts" "Run.counts" s_Run_counts p_Run_counts f2 fd2) (D_idle_in : Df K mg "idle_in" s_idle_in p_idle_in f3 fd3) (F : Fun K "run" "run" s_run f fd) : FnOk P w K mg base (L2.CX P w) 12 f fd p_run (spRunX K CB) := by
  have T := S.T
  have KC_Run := S.KC_Run
  have RC := S.RC
  have D_need_all := N.D_need_all
  have D_Run___init__ := S.D_Run___init__
  have G_need_all : FnOk P w K mg base (L2.CX P w) 8 N.fF N.fdF p_need_all (spNeedAllX K CB) := okX_need_all N Er
  have G_Run___init__ : FnOk P w K mg base CX0 8 S.fI S.fdI p_Run___init__ (spRunI K CR C) := S.ini
  have G_Run_counts : FnOk P w K mg base CX0 2 f2 fd2 p_Run_counts (spCounts K CR C) := ok_Run_counts T KC_Run RC D_Run_count D_idle_in D_Run_counts.F
  refine F.okX sc_run (fun vs H Q E h => ?_) (fun cdv A outer s H vs Q E hr h => ?_)
  · obtain ⟨sa, ra, v, s, g, as, os, rfl, _⟩ := h
    rfl
  obtain ⟨sa, ra, v, s, g, as, os, rfl, hS, gS, hG, hg, hR, q, qe⟩ := h
  refine ⟨_, (pss_cons (ps_expr (pe_callS G_need_all (hr.mono (by first | decide | omega)) (by rfl) D_need_all.m D_need_all.F.kp D_need_all.b (fun σ => passAt (takes_of rfl rfl rfl rfl) σ) (pa_cons (pv 0) (pa_cons (pv 1) (pa_cons (pv 2) pa_nil)))))
  (pss_cons (ps_set (i := 3) sc_run.nd rfl (Or.inl rfl) (pe_make KC_Run.M G_Run___init__ (hr.mono (by first | decide | omega)) (by rfl) KC_Run.g D_Run___init__.b .nil pass0 (pa_cons (pv 0) (pa_cons (pv 1) (pa_cons (pv 2) pa_nil)))))
  (pss_one (ps_ret (pe_tup (pa_cons (pe_fld (pv 3) rfl) (pa_cons (pe_callTy call_tuple_of (by rfl) T.n_tuple (by decide +kernel) (pa_cons (pe_fld (pv 3) rfl) pa_nil)) (pa_cons (pe_meth0 (pv 3) KC_Run.cl D_Run_counts.m G_Run_counts (hr.mono (by first | decide | omega)) D_Run_counts.b .nil pass0) pa_nil)))))))), ?_⟩
  refine ⟨_, rfl, _, rfl, _, rfl, sa, ra, v, s, g, as, os, rfl, hS, gS, hG, hg, hR, fun ag H1 s1 => ?_, qe⟩
  obtain ⟨ds, rfl, gd⟩ := all_deeds ag
  have q := q ag
  have hl := all_len ag
  rw [List.length_map] at hl
  have hR1 := hR.same s1
  refine ⟨_, rfl, _, rfl, _, rfl, ?_⟩
  intro x dx nx ndx nex
  have sB : Same H1 (upd (upd H1 dx (.own x)) x (.ins CR dx [])) := fun b o e => by
    rw [upd_ne (ne_of_none e nx), upd_ne (ne_of_none e ndx)]
    exact e
  refine ⟨x, dx, sa, ra, v, s, g, H1, as, ds, rfl, upd_same, sB, nx, hS.imm (Imm.same s1), gS, hG.same s1, hg, hR1.l, hR1.p.deeds, gd, hl, fun h cA lA aA rA st H2 o => ?_⟩
  have iv := runTo_inv gS hg gd ds.length (Nat.le_refl _)
  have rl := iv.rl
  have l1 := iv.iv.l1
  have l2 := iv.iv.l2
  have r2 := gS.r2
  have w2 := gS.w2
  have l1 : (((runTo s g ds ds.length).st.1.length : Nat) : Int) ≤ s.rm := l1
  have l2 : (((runTo s g ds ds.length).st.2.1.length : Nat) : Int) ≤ s.ms := l2
  generalize runTo s g ds ds.length = r at o rl l1 l2
  refine ⟨rfl, ?_⟩
  refine ⟨_, rfl, x, CR, dx, _, _, rfl, o.ob, KC_Run.cl, RC.answers, rfl, ?_⟩
  refine ⟨_, rfl, x, CR, dx, _, _, rfl, o.ob, KC_Run.cl, RC.cells, rfl, ?_⟩
  refine ⟨_, _, rfl, .inl ⟨sql o.hc, fun t nt => ?_⟩⟩
  have o3 := o.same (same_upd (o := .tup (r.cells.map V.int)) nt)
  generalize upd H2 t (.tup (r.cells.map V.int)) = H3 at o3 ⊢
  refine ⟨_, rfl, x, dx, _, rfl, o3.ob, rfl, ?_⟩
  refine ⟨x, dx, h, v, cA, lA, aA, rA, st, cfgOf s g, H1, r, rfl, o3, by omega, by omega, by omega, fun kT H4 s4 hk => ?_⟩
  have o4 := o3.same s4
  refine ⟨sz_3, fun tp np => ?_⟩
  have o5 := o4.same (same_upd (o := .tup [.ref aA, .ref t, .ref kT]) np)
  exact q _ _ (s1.trans o5.s0)
theorem okX_story (N : NeedCo K w mg) (S : RunCo K mg C CR) (Er : ErrCo K mg CA CB CW) (F : Fun K "story" "story" s_story f fd) : FnOk P w K mg base (L2.CX P w) 12 f fd p_story (spRunX K CB) := by
  have T := S.T
  have KC_Run := S.KC_Run
  have RC := S.RC
  have D_need_all := N.D_need_all
  have D_Run___init__ := S.D_Run___init__
  have G_need_all : FnOk P w K mg base (L2.CX P w) 8 N.fF N.fdF p_need_all (spNeedAllX K CB) := okX_need_all N Er
  have G_Run___init__ : FnOk P w K mg base CX0 8 S.fI S.fdI p_Run___init__ (spRunI K CR C) := S.ini
  refine F.okX sc_story (fun vs H Q E h => ?_) (fun cdv A outer s H vs Q E hr h => ?_)
  · obtain ⟨sa, ra, v, s, g, as, os, rfl, _⟩ := h
    rfl
  obtain ⟨sa, ra, v, s, g, as, os, rfl, hS, gS, hG, hg, hR, q, qe⟩ := h
  refine ⟨_, (pss_cons (ps_expr (pe_callS G_need_all (hr.mono (by first | decide | omega)) (by rfl) D_need_all.m D_need_all.F.kp D_need_all.b (fun σ => passAt (takes_of rfl rfl rfl rfl) σ) (pa_cons (pv 0) (pa_cons (pv 1) (pa_cons (pv 2) pa_nil)))))
  (pss_one (ps_ret (pe_fld (pe_make KC_Run.M G_Run___init__ (hr.mono (by first | decide | omega)) (by rfl) KC_Run.g D_Run___init__.b .nil pass0 (pa_cons (pv 0) (pa_cons (pv 1) (pa_cons (pv 2) pa_nil)))) rfl)))), ?_⟩
  refine ⟨_, rfl, _, rfl, _, rfl, sa, ra, v, s, g, as, os, rfl, hS, gS, hG, hg, hR, fun ag H1 s1 => ?_, qe⟩
  obtain ⟨ds, rfl, gd⟩ := all_deeds ag
  have q := q ag
  have hl := all_len ag
  rw [List.length_map] at hl
  have hR1 := hR.same s1
  refine ⟨_, rfl, _, rfl, _, rfl, ?_⟩
  intro x dx nx ndx nex
  have sB : Same H1 (upd (upd H1 dx (.own x)) x (.ins CR dx [])) := fun b o e => by
    rw [upd_ne (ne_of_none e nx), upd_ne (ne_of_none e ndx)]
    exact e
  refine ⟨x, dx, sa, ra, v, s, g, H1, as, ds, rfl, upd_same, sB, nx, hS.imm (Imm.same s1), gS, hG.same s1, hg, hR1.l, hR1.p.deeds, gd, hl, fun h cA lA aA rA st H2 o => ?_⟩
  refine ⟨rfl, x, CR, dx, _, _, rfl, o.ob, KC_Run.cl, RC.rows, rfl, ?_⟩
  exact q _ H2 (s1.trans o.s0)
end
end St

namespace St
open PySem PySem.Spec PyProof.Rows L2
/-- the looks at what is handed in, one by one -/
structure NeedC (K : PySem.W.Frag) (w : World) (mg : Str → Option Value) where
  {dS dM fA fB fC fD fE : Addr}
  {fdA fdB fdC fdD fdE : FuncData}
  T : Nms mg
  B : Tab K w mg dS dM
  Cn : Cns mg
  D_is_guesser : Df K mg "is_guesser" s_is_guesser p_is_guesser fA fdA
  D_need_guesser : Df K mg "need_guesser" s_need_guesser p_need_guesser fB fdB
  D_need_setting : Df K mg "need_setting" s_need_setting p_need_setting fC fdC
  D_is_deed : Df K mg "is_deed" s_is_deed p_is_deed fD fdD
  D_need_row : Df K mg "need_row" s_need_row p_need_row fE fdE
section
variable {P : Program} {w : World} {K : PySem.W.Frag} {mg : Str → Option Value} {base : Heap}
theorem NeedC.gG (N : NeedC K w mg) : FnOk P w K mg base CX0 6 N.fB N.fdB p_need_guesser (spNeedG K) := ok_need_guesser N.T N.B N.D_is_guesser N.D_need_guesser
theorem NeedC.gS (N : NeedC K w mg) : FnOk P w K mg base CX0 1 N.fC N.fdC p_need_setting (spNeedSet K) := ok_need_setting N.T N.Cn N.D_need_setting.F
theorem NeedC.gR (N : NeedC K w mg) : FnOk P w K mg base CX0 2 N.fE N.fdE p_need_row (spNeedRow K) := ok_need_row N.T N.Cn N.D_is_deed N.D_need_row.F
end
end St

namespace St
open PySem PySem.Spec PyProof.Rows L2
abbrev s_need_weights : Stmt := topS 48
abbrev N_need_weights : List Str := ["weights", "one"]
abbrev p_need_weights : List Str := ["weights"]
theorem sc_need_weights : FnScope N_need_weights p_need_weights (defScope s_need_weights) := ⟨rfl, rfl, rfl, by decide +kernel, rfl, by decide +kernel, by decide +kernel⟩
abbrev s_weighed : Stmt := topS 49
abbrev N_weighed : List Str := ["counts", "weights"]
abbrev p_weighed : List Str := ["counts", "weights"]
theorem sc_weighed : FnScope N_weighed p_weighed (defScope s_weighed) := ⟨rfl, rfl, rfl, by decide +kernel, rfl, by decide +kernel, by decide +kernel⟩
structure Wts where
  a : Int
  b : Int
  c : Int
def Wts.Good (w : Wts) : Prop := (0 ≤ w.a ∧ w.a ≤ 9) ∧ (0 ≤ w.b ∧ w.b ≤ 9) ∧ 0 ≤ w.c ∧ w.c ≤ 9
def IsW (K : PySem.W.Frag) (H : Hp) (p : Addr) (w : Wts) : Prop := SqT K H p [.int w.a, .int w.b, .int w.c]
def weigh (cs : List Int) (w : Wts) : Int := cs.getD 1 0 * w.a + cs.getD 2 0 * w.b + (cs.getD 5 0 + cs.getD 6 0) * w.c
section
variable {P : Program} {w : World} {K : PySem.W.Frag} {mg : Str → Option Value} {base : Heap} {f : Addr} {fd : FuncData}
def spNW (K : PySem.W.Frag) : Sp := fun vs H Q _ => ∃ (p : Addr) (w : Wts), vs = [.ref p] ∧ IsW K H p w ∧ w.Good ∧ ∀ H', Same H H' → Q .non H'
theorem ok_need_weights (T : Nms mg) (hW : ∃ t, mg "MOST_WEIGHT" = some (.int 9 t)) (F : Fun K "need_weights" "need_weights" s_need_weights f fd) : FnOk P w K mg base CX0 1 f fd p_need_weights (spNW K) := by
  refine F.ok sc_need_weights (fun vs H Q E h => ?_) (fun cdv A outer s H vs Q E hr h => ?_)
  · obtain ⟨p, w, rfl, _⟩ := h
    rfl
  obtain ⟨p, w, rfl, hw, ⟨⟨a0, a9⟩, ⟨b0, b9⟩, c0, c9⟩, q⟩ := h
  have hw : SqT K H p [.int w.a, .int w.b, .int w.c] := hw
  refine ⟨_, (pss_one (ps_if (PW.pt (pw_or (pt_cmpR op_ne (pe_callB call_len_seq (by rfl) T.n_len (by decide +kernel) (pa_cons (pv 0) pa_nil)) pe_int (nomark _)) (pw_or1 (pt_cmpR (op_neD hr.units) (pe_lc (own := [("one", 1)]) (g := gName 1) rfl sc_need_weights.nd (pi_tup (pv 0)) (blkOk_by (own := [("one", 1)]) (N := N_need_weights) (sc := defScope s_need_weights) (by decide +kernel)) (fun _ _ _ _ _ => pg_name (i := 1) sc_need_weights.nd rfl (Or.inl rfl)) (fun _ _ _ _ _ => pts_one (pt_not (pt_chain op_le op_le pe_int (pv 1) (pe_gint (by rfl) hW)))) (fun _ _ _ _ _ => (pv 1))) (pe_lst pa_nil) (nomark _)))))
    (pss_one (ps_never))
    (pss_nil))), ?_⟩
  refine ⟨_, rfl, _, _, rfl, .inr hw, rfl, _, rfl, iteB0 rfl ?_⟩
  refine ⟨_, rfl, p, rfl, ⟨_, hw⟩, fun D nD => ?_⟩
  refine lc_tup (xs := [.int w.a, .int w.b, .int w.c]) (fun i H' => Same H H' ∧ H' D = some (.lst [])) ⟨same_upd nD, upd_same⟩ (fun i H' _ h => same_t h.1 hw) (fun i y H' hi h => ?_) (fun H' h => ?_)
  · obtain ⟨x, rfl, gx⟩ : ∃ x : Int, y = .int x ∧ 0 ≤ x ∧ x ≤ 9 := by
      have := List.mem_of_getElem? hi
      simp only [List.mem_cons, List.not_mem_nil, or_false] at this
      rcases this with rfl | rfl | rfl
      · exact ⟨_, rfl, a0, a9⟩
      · exact ⟨_, rfl, b0, b9⟩
      · exact ⟨_, rfl, c0, c9⟩
    and_intros
    refine iteB (decide_eq_true gx.1) ?_
    refine ⟨_, _, rfl, rfl, _, rfl, ?_⟩
    rw [decide_eq_true gx.2]
    exact iteB0 (b := !true) rfl h
  · refine ⟨Nat.zero_le _, fun L nL => ?_⟩
    refine ⟨.list (([] : List Int).map .int), .list (([] : List Int).map .int), dp_ints (sql (same_upd nL _ _ h.2)), dp_ints (sql upd_same), lay_ints [], lay_ints [], ?_⟩
    rw [eqv_ints, decide_eq_true rfl]
    refine ⟨_, rfl, iteB0 (b := !true) rfl ?_⟩
    exact q _ (h.1.trans (same_upd nL))
def spWd (K : PySem.W.Frag) : Sp := fun vs H Q _ => ∃ (k p : Addr) (cs : List Int) (w : Wts), vs = [.ref k, .ref p] ∧ SqT K H k (cs.map V.int) ∧ cs.length = 7 ∧ IsW K H p w ∧ w.Good ∧ Q (.int (weigh cs w)) H
theorem ok_weighed (F : Fun K "weighed" "weighed" s_weighed f fd) : FnOk P w K mg base CX0 1 f fd p_weighed (spWd K) := by
  refine F.ok sc_weighed (fun vs H Q E h => ?_) (fun cdv A outer s H vs Q E hr h => ?_)
  · obtain ⟨k, p, cs, w, rfl, _⟩ := h
    rfl
  obtain ⟨k, p, cs, w, rfl, hk, hl, hw, ⟨⟨a0, a9⟩, ⟨b0, b9⟩, c0, c9⟩, q⟩ := h
  have hw : SqT K H p [.int w.a, .int w.b, .int w.c] := hw
  obtain ⟨d0, d1, d2, d3, d4, d5, d6, rfl⟩ : ∃ d0 d1 d2 d3 d4 d5 d6 : Int, cs = [d0, d1, d2, d3, d4, d5, d6] := by
    match cs, hl with
    | [d0, d1, d2, d3, d4, d5, d6], _ => exact ⟨d0, d1, d2, d3, d4, d5, d6, rfl⟩
  have hk : SqT K H k [.int d0, .int d1, .int d2, .int d3, .int d4, .int d5, .int d6] := hk
  refine ⟨_, (pss_one (ps_ret (pe_op op_add (pe_op op_add (pe_op op_mul (pe_ix ix_tup (pv 0) pe_int (fun _ _ => rfl)) (pe_ix ix_tup (pv 1) pe_int (fun _ _ => rfl))) (pe_op op_mul (pe_ix ix_tup (pv 0) pe_int (fun _ _ => rfl)) (pe_ix ix_tup (pv 1) pe_int (fun _ _ => rfl)))) (pe_op op_mul (pe_op op_add (pe_ix ix_tup (pv 0) pe_int (fun _ _ => rfl)) (pe_ix ix_tup (pv 0) pe_int (fun _ _ => rfl))) (pe_ix ix_tup (pv 1) pe_int (fun _ _ => rfl)))))), ?_⟩
  refine ⟨_, rfl, _, _, _, _, rfl, rfl, hk, atI_nat (j := 1) rfl, _, rfl, _, _, _, _, rfl, rfl, hw, atI_nat (j := 0) rfl, _, _, rfl, rfl, .inr (by omega), ?_⟩
  refine ⟨_, rfl, _, _, _, _, rfl, rfl, hk, atI_nat (j := 2) rfl, _, rfl, _, _, _, _, rfl, rfl, hw, atI_nat (j := 1) rfl, _, _, rfl, rfl, .inr (by omega), _, _, rfl, rfl, ?_⟩
  refine ⟨_, rfl, _, _, _, _, rfl, rfl, hk, atI_nat (j := 5) rfl, _, rfl, _, _, _, _, rfl, rfl, hk, atI_nat (j := 6) rfl, _, _, rfl, rfl, _, rfl, _, _, _, _, rfl, rfl, hw, atI_nat (j := 2) rfl, _, _, rfl, rfl, .inr (by omega), _, _, rfl, rfl, ?_⟩
  exact q
end
end St

namespace St
open PySem PySem.Spec PyProof.Rows L2
abbrev s_cost : Stmt := topS 50
abbrev N_cost : List Str := ["setting", "guesser", "row", "weights"]
abbrev p_cost : List Str := ["setting", "guesser", "row", "weights"]
theorem sc_cost : FnScope N_cost p_cost (defScope s_cost) := ⟨rfl, rfl, rfl, by decide +kernel, rfl, by decide +kernel, by decide +kernel⟩
def costOf (s : Stg) (ds : List Deed) (w : Wts) (g : G) : Int := weigh (countsP (runTo s g ds ds.length).rows (runTo s g ds ds.length).st) w
def spCost (K : PySem.W.Frag) : Sp := fun vs H Q _ => ∃ (sa ra wp : Addr) (v : V) (s : Stg) (g : G) (as : List Addr) (ds : List Deed) (w : Wts), vs = [.ref sa, v, .ref ra, .ref wp] ∧ IsSet K H sa s ∧ s.Good ∧ IsG K H g v ∧ good 3 g = true ∧ SqL K H ra (as.map V.ref) ∧ PrD K H as ds ∧ (∀ d ∈ ds, Deed.Good ((s.mem.length : Nat) : Int) d) ∧ ds.length ≤ 100 ∧ IsW K H wp w ∧ w.Good ∧
  ∀ H', Same H H' → Q (.int (costOf s ds w g)) H'
/-- what a cost leans on -/
structure CostCo (K : PySem.W.Frag) (mg : Str → Option Value) (CR : Addr) where
  {f1 f2 f3 f4 f5 : Addr}
  {fd1 fd2 fd3 fd4 fd5 : FuncData}
  D_Run_count : Mf K CR "count" "Run.count" s_Run_count p_Run_count f1 fd1
  D_Run_counts : Mf K CR "counts" "Run.counts" s_Run_counts p_Run_counts f2 fd2
  D_idle_in : Df K mg "idle_in" s_idle_in p_idle_in f3 fd3
  D_need_weights : Df K mg "need_weights" s_need_weights p_need_weights f4 fd4
  D_weighed : Df K mg "weighed" s_weighed p_weighed f5 fd5
  hW : ∃ t, mg "MOST_WEIGHT" = some (.int 9 t)
section
variable {P : Program} {w : World} {K : PySem.W.Frag} {mg : Str → Option Value} {base : Heap} {f C CR : Addr} {fd : FuncData}
theorem CostCo.gC (O : CostCo K mg CR) (S : RunCo K mg C CR) : FnOk P w K mg base CX0 2 O.f2 O.fd2 p_Run_counts (spCounts K CR C) := ok_Run_counts S.T S.KC_Run S.RC O.D_Run_count O.D_idle_in O.D_Run_counts.F
theorem ok_cost (N : NeedC K w mg) (S : RunCo K mg C CR) (O : CostCo K mg CR) (F : Fun K "cost" "cost" s_cost f fd) : FnOk P w K mg base CX0 10 f fd p_cost (spCost K) := by
  have T := S.T
  have KC_Run := S.KC_Run
  have D_need_setting := N.D_need_setting
  have D_need_guesser := N.D_need_guesser
  have D_need_row := N.D_need_row
  have D_need_weights := O.D_need_weights
  have D_weighed := O.D_weighed
  have D_Run___init__ := S.D_Run___init__
  have D_Run_counts := O.D_Run_counts
  have G_need_setting : FnOk P w K mg base CX0 1 N.fC N.fdC p_need_setting (spNeedSet K) := N.gS
  have G_need_guesser : FnOk P w K mg base CX0 6 N.fB N.fdB p_need_guesser (spNeedG K) := N.gG
  have G_need_row : FnOk P w K mg base CX0 2 N.fE N.fdE p_need_row (spNeedRow K) := N.gR
  have G_need_weights : FnOk P w K mg base CX0 1 O.f4 O.fd4 p_need_weights (spNW K) := ok_need_weights T O.hW O.D_need_weights.F
  have G_weighed : FnOk P w K mg base CX0 1 O.f5 O.fd5 p_weighed (spWd K) := ok_weighed O.D_weighed.F
  have G_Run___init__ : FnOk P w K mg base CX0 8 S.fI S.fdI p_Run___init__ (spRunI K CR C) := S.ini
  have G_Run_counts : FnOk P w K mg base CX0 2 O.f2 O.fd2 p_Run_counts (spCounts K CR C) := O.gC S
  refine F.ok sc_cost (fun vs H Q E h => ?_) (fun cdv A outer s H vs Q E hr h => ?_)
  · obtain ⟨sa, ra, wp, v, s, g, as, ds, w, rfl, _⟩ := h
    rfl
  obtain ⟨sa, ra, wp, v, s, g, as, ds, wt, rfl, hS, gS, hG, hg, hra, pd, gd, hl, hw, gw, q⟩ := h
  refine ⟨_, (pss_cons (ps_expr (pe_call G_need_setting (hr.mono (by first | decide | omega)) (by rfl) D_need_setting.m D_need_setting.F.kp D_need_setting.b .nil pass0 (pa_cons (pv 0) pa_nil)))
  (pss_cons (ps_expr (pe_call G_need_guesser (hr.mono (by first | decide | omega)) (by rfl) D_need_guesser.m D_need_guesser.F.kp D_need_guesser.b .nil pass0 (pa_cons (pv 1) pa_nil)))
  (pss_cons (ps_expr (pe_call G_need_row (hr.mono (by first | decide | omega)) (by rfl) D_need_row.m D_need_row.F.kp D_need_row.b .nil pass0 (pa_cons (pe_callB call_len_seq (by rfl) T.n_len (by decide +kernel) (pa_cons (pe_ix ix_tup (pv 0) pe_int (fun _ _ => rfl)) pa_nil)) (pa_cons (pv 2) pa_nil))))
  (pss_cons (ps_expr (pe_call G_need_weights (hr.mono (by first | decide | omega)) (by rfl) D_need_weights.m D_need_weights.F.kp D_need_weights.b .nil pass0 (pa_cons (pv 3) pa_nil)))
  (pss_one (ps_ret (pe_call G_weighed (hr.mono (by first | decide | omega)) (by rfl) D_weighed.m D_weighed.F.kp D_weighed.b .nil pass0 (pa_cons (pe_meth0 (pe_make KC_Run.M G_Run___init__ (hr.mono (by first | decide | omega)) (by rfl) KC_Run.g D_Run___init__.b .nil pass0 (pa_cons (pv 0) (pa_cons (pv 1) (pa_cons (pv 2) pa_nil)))) KC_Run.cl D_Run_counts.m G_Run_counts (hr.mono (by first | decide | omega)) D_Run_counts.b .nil pass0) (pa_cons (pv 3) pa_nil))))))))), ?_⟩
  and_intros
  refine ⟨sa, s, rfl, hS, gS, fun H1 s1 => ?_⟩
  and_intros
  refine ⟨v, g, rfl, hG.same s1, hg, fun H2 s2 => ?_⟩
  have s12 := s1.trans s2
  obtain ⟨m, m1, m2⟩ := hS.imm (Imm.same s12)
  and_intros
  refine ⟨ra, as, _, ds, rfl, same_l s12 hra, pd.imm (Imm.same s12), by rw [List.length_map]; exact gd, hl, ?_⟩
  and_intros
  refine ⟨wp, wt, rfl, same_t s12 hw, gw, fun H3 s3 => ?_⟩
  have s13 := s12.trans s3
  refine ⟨_, rfl, _, rfl, _, rfl, ?_⟩
  intro x dx nx ndx nex
  have sB : Same H3 (upd (upd H3 dx (.own x)) x (.ins CR dx [])) := fun b o e => by
    rw [upd_ne (ne_of_none e nx), upd_ne (ne_of_none e ndx)]
    exact e
  refine ⟨x, dx, sa, ra, v, s, g, H3, as, ds, rfl, upd_same, sB, nx, hS.imm (Imm.same s13), gS, hG.same s13, hg, same_l s13 hra, pd.imm (Imm.same s13), gd, hl, fun h cA lA aA rA st H4 o => ?_⟩
  have iv := runTo_inv gS hg gd ds.length (Nat.le_refl _)
  have rl := iv.rl
  have l1 := iv.iv.l1
  have l2 := iv.iv.l2
  have r2 := gS.r2
  have w2 := gS.w2
  have l1 : (((runTo s g ds ds.length).st.1.length : Nat) : Int) ≤ s.rm := l1
  have l2 : (((runTo s g ds ds.length).st.2.1.length : Nat) : Int) ≤ s.ms := l2
  have q' : ∀ H', Same H H' → Q (.int (weigh (countsP (runTo s g ds ds.length).rows (runTo s g ds ds.length).st) wt)) H' := q
  generalize runTo s g ds ds.length = r at o rl l1 l2 q'
  refine ⟨rfl, x, dx, _, rfl, o.ob, rfl, ?_⟩
  refine ⟨x, dx, h, v, cA, lA, aA, rA, st, cfgOf s g, H3, r, rfl, o, by omega, by omega, by omega, fun kT H5 s5 hk => ?_⟩
  have s35 := o.s0.trans s5
  refine ⟨_, rfl, ?_⟩
  refine ⟨kT, wp, _, wt, rfl, hk, rfl, same_t (s13.trans s35) hw, gw, ?_⟩
  exact q' H5 (s13.trans s35)
end
end St

namespace St
open PySem PySem.Spec PyProof.Rows L2
/-! ### sorted pairs -/
def kV (H : Hp) : V → Int × Int
  | .ref t => match H t with
    | some (.tup [.int i, .int j]) => (i, j)
    | _ => (0, 0)
  | _ => (0, 0)
def PrT (H : Hp) (as : List Addr) (ps : List (Int × Int)) : Prop := Paired (fun (t : Addr) (e : Int × Int) => H t = some (.tup [.int e.1, .int e.2])) as ps
theorem PrT.same {H H' : Hp} {as : List Addr} {ps : List (Int × Int)} (h : PrT H as ps) (e : Same H H') : PrT H' as ps := Paired.mapP h fun _ _ z => e _ _ z
def SrtP (qs : List (Int × Int)) : Prop := qs.Pairwise fun x y => SrtO.lexB y x = false
def unr (d : Addr) : V → Addr
  | .ref t => t
  | _ => d
theorem kV_at {H : Hp} {t : Addr} {e : Int × Int} (h : H t = some (.tup [.int e.1, .int e.2])) : kV H (.ref t) = e := by
  unfold kV
  simp only [h]
theorem prT_of {H : Hp} : ∀ {as : List Addr}, (∀ t ∈ as, ∃ e : Int × Int, H t = some (.tup [.int e.1, .int e.2])) → PrT H as (as.map fun t => kV H (.ref t))
  | [], _ => .nil
  | t :: as, h => by
    obtain ⟨e, he⟩ := h t (List.mem_cons_self ..)
    refine .cons ?_ (prT_of fun u hu => h u (List.mem_cons_of_mem _ hu))
    show H t = some (.tup [.int (kV H (.ref t)).1, .int (kV H (.ref t)).2])
    rw [kV_at he]
    exact he
theorem prT_map {H : Hp} : ∀ {as : List Addr} {ps : List (Int × Int)}, PrT H as ps → ps = as.map fun t => kV H (.ref t)
  | _, _, .nil => rfl
  | _, _, .cons h t => by rw [List.map_cons, kV_at h, ← prT_map t]
theorem srt_k {H : Hp} {as : List Addr} {ps : List (Int × Int)} (hp : PrT H as ps) : ∀ x ∈ as.map V.ref, ∃ t, x = .ref t ∧ H t = some (.tup [.int (kV H x).1, .int (kV H x).2]) := fun x hx => by
  obtain ⟨t, ht, rfl⟩ := List.mem_map.mp hx
  obtain ⟨e, he⟩ := paired_l hp t ht
  refine ⟨t, rfl, ?_⟩
  rw [kV_at he]
  exact he
theorem srt_fin {H : Hp} {as : List Addr} {ps : List (Int × Int)} {ys : List V} (hp : PrT H as ps) (hs : SrtO.Srtd (L2.ltP (kV H)) ys) (hb : SrtO.Stb (L2.ltP (kV H)) ys (as.map V.ref)) :
    ∃ (bs : List Addr) (qs : List (Int × Int)), ys = bs.map V.ref ∧ PrT H bs qs ∧ qs.Perm ps ∧ SrtP qs := by
  have e1 : ys = (ys.map (unr 0)).map V.ref := by
    rw [List.map_map]
    refine ((List.map_id ys).symm.trans (List.map_congr_left fun y hy => ?_))
    obtain ⟨t, _, rfl⟩ := List.mem_map.mp (hb.perm.mem_iff.mp hy)
    rfl
  have e2 : (ys.map (unr 0)).Perm as := by
    have := hb.perm.map (unr 0)
    rw [List.map_map] at this
    refine this.trans (List.Perm.of_eq ?_)
    exact (List.map_congr_left fun _ _ => rfl).trans (List.map_id as)
  refine ⟨ys.map (unr 0), (ys.map (unr 0)).map fun t => kV H (.ref t), e1, prT_of fun t ht => paired_l hp t (e2.mem_iff.mp ht), by rw [prT_map hp]; exact e2.map _, ?_⟩
  unfold SrtP
  rw [List.map_map, List.pairwise_map]
  refine List.Pairwise.imp_of_mem ?_ hs
  intro x y hx hy h
  obtain ⟨t, _, rfl⟩ := List.mem_map.mp (hb.perm.mem_iff.mp hx)
  obtain ⟨u, _, rfl⟩ := List.mem_map.mp (hb.perm.mem_iff.mp hy)
  exact h
theorem srt_ok {K : PySem.W.Frag} {H : Hp} {a : Addr} {as : List Addr} {ps : List (Int × Int)} {Q : VK} (ha : SqL K H a (as.map V.ref)) (hp : PrT H as ps)
    (q : ∀ p (as' : List Addr) (qs : List (Int × Int)), H p = none → PrT H as' qs → qs.Perm ps → SrtP qs → Q (.ref p) (upd H p (.lst (as'.map V.ref)))) : rSortedPO K [.ref a] H Q := by
  refine ⟨a, as.map V.ref, kV H, rfl, ha, srt_k hp, fun ys p hs hb np => ?_⟩
  obtain ⟨bs, qs, rfl, h1, h2, h3⟩ := srt_fin hp hs hb
  exact q p bs qs np h1 h2 h3
theorem lexB_anti {x y : Int × Int} (h1 : SrtO.lexB y x = false) (h2 : SrtO.lexB x y = false) : x = y := by
  obtain ⟨a, b⟩ := x
  obtain ⟨c, d⟩ := y
  unfold SrtO.lexB at h1 h2
  simp only at h1 h2
  by_cases e : a = c
  · subst e
    rw [if_pos rfl] at h1 h2
    have := of_decide_eq_false h1
    have := of_decide_eq_false h2
    have : b = d := by omega
    rw [this]
  · rw [if_neg (Ne.symm e)] at h1
    rw [if_neg e] at h2
    have := of_decide_eq_false h1
    have := of_decide_eq_false h2
    omega
theorem srt_eq {qs qs' ps : List (Int × Int)} (h1 : qs.Perm ps) (h2 : qs'.Perm ps) (s1 : SrtP qs) (s2 : SrtP qs') : qs = qs' :=
  List.Perm.eq_of_pairwise (fun _ _ _ _ a b => lexB_anti a b) s1 s2 (h1.trans h2.symm)
end St

namespace St
open PySem PySem.Spec PyProof.Rows L2
abbrev s_held : Stmt := topS 51
abbrev N_held : List Str := ["setting", "guessers", "row", "weights", "guesser", "k", "one"]
abbrev p_held : List Str := ["setting", "guessers", "row", "weights"]
theorem sc_held : FnScope N_held p_held (defScope s_held) := ⟨rfl, rfl, rfl, by decide +kernel, rfl, by decide +kernel, by decide +kernel⟩
def PrG (K : PySem.W.Frag) (H : Hp) (vs : List V) (gs : List G) : Prop := Paired (fun (v : V) (g : G) => IsG K H g v) vs gs
theorem PrG.imm {K : PySem.W.Frag} {H H' : Hp} {vs : List V} {gs : List G} (h : PrG K H vs gs) (e : Imm H H') : PrG K H' vs gs := Paired.mapP h fun _ _ z => z.imm e
def enumP (cs : List Int) : List (Int × Int) := (List.range cs.length).map fun k => (cs.getD k 0, (k : Int))
theorem enumP_take {cs : List Int} {i : Nat} {c : Int} (h : cs[i]? = some c) : (enumP cs).take (i + 1) = (enumP cs).take i ++ [(c, (i : Int))] := by
  have hi := (List.getElem?_eq_some_iff.mp h).1
  rw [List.take_add_one]
  unfold enumP
  rw [List.getElem?_map, List.getElem?_eq_getElem (by rw [List.length_range]; exact hi), List.getElem_range]
  show _ ++ [(cs.getD i 0, (i : Int))] = _
  rw [List.getD_eq_getElem?_getD, h]
  rfl
theorem PrT.updL {H : Hp} {D : Addr} {o : HO} {as : List Addr} {ps : List (Int × Int)} (h : PrT H as ps) (l : LstAt H D) : PrT (upd H D o) as ps := Paired.mapP h fun t e z => by
  obtain ⟨ys, l⟩ := l
  rw [upd_ne (fun y => by subst y; rw [l] at z; cases z)]
  exact z
theorem prg_at {K : PySem.W.Frag} {H : Hp} : ∀ {vs : List V} {gs : List G} {i : Nat} {v : V}, PrG K H vs gs → vs[i]? = some v → ∃ g, gs[i]? = some g ∧ IsG K H g v
  | _, _, 0, _, .cons h _, e => ⟨_, rfl, by cases Option.some.inj e; exact h⟩
  | _, _, i + 1, _, .cons _ t, e => prg_at (i := i) t e
  | _, _, 0, _, .nil, e => nomatch e
  | _, _, _ + 1, _, .nil, e => nomatch e
section
variable {P : Program} {w : World} {K : PySem.W.Frag} {mg : Str → Option Value} {base : Heap} {f C CR : Addr} {fd : FuncData}
def spHeld (K : PySem.W.Frag) : Sp := fun vs H Q _ => ∃ (sa ga ra wp : Addr) (gv : List V) (s : Stg) (gs : List G) (as : List Addr) (ds : List Deed) (w : Wts), vs = [.ref sa, .ref ga, .ref ra, .ref wp] ∧ IsSet K H sa s ∧ s.Good ∧ SqL K H ga gv ∧ PrG K H gv gs ∧ (∀ g ∈ gs, good 3 g = true) ∧ gs.length ≤ 8 ∧ SqL K H ra (as.map V.ref) ∧ PrD K H as ds ∧ (∀ d ∈ ds, Deed.Good ((s.mem.length : Nat) : Int) d) ∧ ds.length ≤ 100 ∧ IsW K H wp w ∧ w.Good ∧
  ∀ p (bs : List Addr) qs H', Same H H' → H p = none → H' p = some (.lst (bs.map V.ref)) → PrT H' bs qs → qs.Perm (enumP (gs.map (costOf s ds w))) → SrtP qs → Q (.ref p) H'
theorem ok_held (N : NeedC K w mg) (S : RunCo K mg C CR) (O : CostCo K mg CR) (hM : ∃ t, mg "MOST_GUESSERS" = some (.int 8 t)) (F : Fun K "held" "held" s_held f fd) : FnOk P w K mg base CX0 10 f fd p_held (spHeld K) := by
  have T := S.T
  have KC_Run := S.KC_Run
  have D_need_setting := N.D_need_setting
  have D_need_guesser := N.D_need_guesser
  have D_need_row := N.D_need_row
  have D_need_weights := O.D_need_weights
  have D_weighed := O.D_weighed
  have D_Run___init__ := S.D_Run___init__
  have D_Run_counts := O.D_Run_counts
  have G_need_setting : FnOk P w K mg base CX0 1 N.fC N.fdC p_need_setting (spNeedSet K) := N.gS
  have G_need_guesser : FnOk P w K mg base CX0 6 N.fB N.fdB p_need_guesser (spNeedG K) := N.gG
  have G_need_row : FnOk P w K mg base CX0 2 N.fE N.fdE p_need_row (spNeedRow K) := N.gR
  have G_need_weights : FnOk P w K mg base CX0 1 O.f4 O.fd4 p_need_weights (spNW K) := ok_need_weights T O.hW O.D_need_weights.F
  have G_weighed : FnOk P w K mg base CX0 1 O.f5 O.fd5 p_weighed (spWd K) := ok_weighed O.D_weighed.F
  have G_Run___init__ : FnOk P w K mg base CX0 8 S.fI S.fdI p_Run___init__ (spRunI K CR C) := S.ini
  have G_Run_counts : FnOk P w K mg base CX0 2 O.f2 O.fd2 p_Run_counts (spCounts K CR C) := O.gC S
  refine F.ok sc_held (fun vs H Q E h => ?_) (fun cdv A outer s H vs Q E hr h => ?_)
  · obtain ⟨sa, ga, ra, wp, gv, s, gs, as, ds, w, rfl, _⟩ := h
    rfl
  obtain ⟨sa, ga, ra, wp, gv, s, gs, as, ds, wt, rfl, hS, gS, hga, pg, hg, lg, hra, pd, gd, hl, hw, gw, q⟩ := h
  refine ⟨_, (pss_cons (ps_expr (pe_call G_need_setting (hr.mono (by first | decide | omega)) (by rfl) D_need_setting.m D_need_setting.F.kp D_need_setting.b .nil pass0 (pa_cons (pv 0) pa_nil)))
  (pss_cons (ps_if (pt_cmpR op_gt (pe_callB call_len_seq (by rfl) T.n_len (by decide +kernel) (pa_cons (pv 1) pa_nil)) (pe_gint (by rfl) hM) (nomark _))
    (pss_one (ps_never))
    (pss_nil))
  (pss_cons (ps_for PassesOwn.never rfl (pi_list (pv 1)) (pg_name (i := 4) sc_held.nd rfl (Or.inl rfl))
    (pss_one (ps_expr (pe_call G_need_guesser (hr.mono (by first | decide | omega)) (by rfl) D_need_guesser.m D_need_guesser.F.kp D_need_guesser.b .nil pass0 (pa_cons (pv 4) pa_nil)))))
  (pss_cons (ps_expr (pe_call G_need_row (hr.mono (by first | decide | omega)) (by rfl) D_need_row.m D_need_row.F.kp D_need_row.b .nil pass0 (pa_cons (pe_callB call_len_seq (by rfl) T.n_len (by decide +kernel) (pa_cons (pe_ix ix_tup (pv 0) pe_int (fun _ _ => rfl)) pa_nil)) (pa_cons (pv 2) pa_nil))))
  (pss_cons (ps_expr (pe_call G_need_weights (hr.mono (by first | decide | omega)) (by rfl) D_need_weights.m D_need_weights.F.kp D_need_weights.b .nil pass0 (pa_cons (pv 3) pa_nil)))
  (pss_one (ps_ret (pe_callB cr_sortedPO (by rfl) T.n_sorted (by decide +kernel) (pa_cons (pe_lc (own := [("k", 5), ("one", 6)]) (g := (gTup K 2 (gCons (gName 5) (gCons (gName 6) gNil)))) rfl sc_held.nd (pi_enum (by rfl) T.n_enumerate (pa_cons (pv 1) pa_nil)) (blkOk_by (own := [("k", 5), ("one", 6)]) (N := N_held) (sc := defScope s_held) (by decide +kernel)) (fun _ _ _ _ _ => pg_tup rfl (pgs_cons (pg_name (i := 5) sc_held.nd rfl (Or.inl rfl)) (pgs_cons (pg_name (i := 6) sc_held.nd rfl (Or.inl rfl)) pgs_nil))) (fun _ _ _ _ _ => pts_nil) (fun _ _ _ _ _ => (pe_tup (pa_cons (pe_call G_weighed (hr.mono (by first | decide | omega)) (by rfl) D_weighed.m D_weighed.F.kp D_weighed.b .nil pass0 (pa_cons (pe_meth0 (pe_make KC_Run.M G_Run___init__ (hr.mono (by first | decide | omega)) (by rfl) KC_Run.g D_Run___init__.b .nil pass0 (pa_cons (pv 0) (pa_cons (pv 6) (pa_cons (pv 2) pa_nil)))) KC_Run.cl D_Run_counts.m G_Run_counts (hr.mono (by first | decide | omega)) D_Run_counts.b .nil pass0) (pa_cons (pv 3) pa_nil))) (pa_cons (pv 5) pa_nil))))) pa_nil))))))))), ?_⟩
  have lgv : gv.length = gs.length := Paired.length pg
  refine ⟨_, rfl, ?_⟩
  refine ⟨sa, s, rfl, hS, gS, fun H1 s1 => ?_⟩
  have hga1 := same_l s1 hga
  refine ⟨_, rfl, _, _, rfl, .inl hga1, _, _, rfl, rfl, _, rfl, iteB0 (decide_eq_false (by omega)) ?_⟩
  refine ⟨_, rfl, ga, rfl, ⟨_, hga1⟩, ?_⟩
  refine for_list (xs := gv) (fun i σ H' => ∃ y4, σ = [some (.ref sa), some (.ref ga), some (.ref ra), some (.ref wp), y4, none, none] ∧ Same H1 H') ⟨none, rfl, Same.refl _⟩ (fun i σ H' _ h => ?_) (fun i x σ H' hi h => ?_) (fun σ H2 h => ?_)
  · obtain ⟨y4, rfl, s2⟩ := h
    exact same_l s2 hga1
  · obtain ⟨y4, rfl, s2⟩ := h
    obtain ⟨g, eg, hGi⟩ := prg_at (pg.imm (Imm.same (s1.trans s2))) hi
    refine ⟨_, rfl, ?_⟩
    refine ⟨x, g, rfl, hGi, hg g (List.mem_of_getElem? eg), fun H3 s3 => ?_⟩
    exact ⟨_, rfl, s2.trans s3⟩
  · obtain ⟨y4, rfl, s2⟩ := h
    have s12 := s1.trans s2
    obtain ⟨m, m1, m2⟩ := hS.imm (Imm.same s12)
    and_intros
    refine ⟨ra, as, _, ds, rfl, same_l s12 hra, pd.imm (Imm.same s12), by rw [List.length_map]; exact gd, hl, ?_⟩
    refine ⟨_, rfl, ?_⟩
    refine ⟨wp, wt, rfl, same_t s12 hw, gw, fun H3 s3 => ?_⟩
    have s13 := s12.trans s3
    refine ⟨_, rfl, ga, gv, rfl, same_l s13 hga, fun D nD => ?_⟩
    refine lc_it walk_enum (fun i H' => Same H3 H' ∧ ∃ bs : List Addr, H' D = some (.lst (bs.map V.ref)) ∧ PrT H' bs ((enumP (gs.map (costOf s ds wt))).take i)) ⟨same_upd nD, [], upd_same, .nil⟩ (fun i H' _ h => same_l (s13.trans h.1) hga) (fun i x H' H'' hi h y => ?_) (fun H' h => ?_)
    · obtain ⟨T0, x1, y1, rfl, nT, rfl, ex, ey⟩ := y
      cases Option.some.inj ex
      obtain ⟨s4, bs, eD, pb⟩ := h
      have s5 : Same H' (upd H' T0 (.tup [.int ((i : Nat) : Int), y1])) := same_upd nT
      have e5 : SqT K (upd H' T0 (.tup [.int ((i : Nat) : Int), y1])) T0 [.int ((i : Nat) : Int), y1] := sqt upd_same
      have eD5 := s5 _ _ eD
      have pb5 := pb.same s5
      have s35 := s4.trans s5
      generalize upd H' T0 (.tup [.int ((i : Nat) : Int), y1]) = H5 at s5 e5 eD5 pb5 s35 ⊢
      have s05 := s13.trans s35
      obtain ⟨g, eg, hGi⟩ := prg_at (pg.imm (Imm.same s05)) ey
      have hgg := hg g (List.mem_of_getElem? eg)
      refine ⟨T0, _, rfl, e5, rfl, _, _, rfl, _, _, rfl, rfl, rfl, ?_⟩
      refine ⟨_, rfl, _, rfl, _, rfl, ?_⟩
      intro x dx nx ndx nex
      have sB : Same H5 (upd (upd H5 dx (.own x)) x (.ins CR dx [])) := fun b o e => by
        rw [upd_ne (ne_of_none e nx), upd_ne (ne_of_none e ndx)]
        exact e
      refine ⟨x, dx, sa, ra, y1, s, g, H5, as, ds, rfl, upd_same, sB, nx, hS.imm (Imm.same s05), gS, hGi, hgg, same_l s05 hra, pd.imm (Imm.same s05), gd, hl, fun h cA lA aA rA st H6 o => ?_⟩
      have iv := runTo_inv gS hgg gd ds.length (Nat.le_refl _)
      have rl := iv.rl
      have l1 := iv.iv.l1
      have l2 := iv.iv.l2
      have r2 := gS.r2
      have w2 := gS.w2
      have l1 : (((runTo s g ds ds.length).st.1.length : Nat) : Int) ≤ s.rm := l1
      have l2 : (((runTo s g ds ds.length).st.2.1.length : Nat) : Int) ≤ s.ms := l2
      have ec : (gs.map (costOf s ds wt))[i]? = some (weigh (countsP (runTo s g ds ds.length).rows (runTo s g ds ds.length).st) wt) := by rw [List.getElem?_map, eg]; rfl
      have et := enumP_take ec
      have li : i < gs.length := (List.getElem?_eq_some_iff.mp eg).1
      generalize runTo s g ds ds.length = r at o rl l1 l2 ec et
      refine ⟨rfl, x, dx, _, rfl, o.ob, rfl, ?_⟩
      refine ⟨x, dx, h, y1, cA, lA, aA, rA, st, cfgOf s g, H5, r, rfl, o, by omega, by omega, by omega, fun kT H7 s7 hk => ?_⟩
      have s57 := o.s0.trans s7
      refine ⟨_, rfl, ?_⟩
      refine ⟨kT, wp, _, wt, rfl, hk, rfl, same_t (s05.trans s57) hw, gw, ?_⟩
      refine ⟨_, rfl, sz_2, fun u nu => ?_⟩
      have eD7 := s57 _ _ eD5
      have s8 : Same H7 (upd H7 u (.tup [.int (weigh (countsP r.rows r.st) wt), .int ((i : Nat) : Int)])) := same_upd nu
      have eD8 := s8 _ _ eD7
      have pb8 := (pb5.same s57).same s8
      have lbs : bs.length = ((enumP (gs.map (costOf s ds wt))).take i).length := Paired.length pb
      rw [List.length_take] at lbs
      refine ⟨_, eD8, by rw [List.length_map]; exact szl (by omega), same_mut ((s35.trans s57).trans s8) nD, bs ++ [u], by rw [upd_same, List.map_append]; rfl, ?_⟩
      rw [et]
      refine Paired.snoc (pb8.updL ⟨_, eD8⟩) ?_
      rw [upd_ne (fun z => by
        rw [z] at nu
        rw [eD7] at nu
        cases nu)]
      exact upd_same
    · obtain ⟨s4, bs, eD, pb⟩ := h
      rw [show (enumP (gs.map (costOf s ds wt))).take gv.length = enumP (gs.map (costOf s ds wt)) from List.take_of_length_le (by unfold enumP; rw [List.length_map, List.length_range, List.length_map, lgv]; exact Nat.le_refl _)] at pb
      refine srt_ok (sql eD) pb fun p bs' qs np hp hq hs => ?_
      exact q p bs' qs _ ((s13.trans s4).trans (same_upd np)) ((s13.trans s4).free np) upd_same (hp.same (same_upd np)) hq hs
end
end St

namespace St
open PySem PySem.Spec PyProof.Rows L2
/-! ### list.count of a text -/
def eqks (k : Str) (v : Value) : Bool := match v with
  | .str n _ => n.cps.toList == k.cps.toList
  | _ => false
theorem eqks_eq (n k : Str) : (n.cps.toList == k.cps.toList) = (n == k) := by
  by_cases c : n = k
  · subst c; simp
  · rw [beq_eq_false_iff_ne.mpr c, beq_eq_false_iff_ne]
    intro z
    apply c
    cases n; cases k
    simp only at z
    congr 1
    exact Array.toList_inj.mp z
theorem eqks_gives {k : Str} {t : Tok} : ∀ {us : List Value} {ns : List Str}, Vals (ns.map V.str) us → ∀ y ∈ us, MeetsSeq.EqGives y (.str k t) (eqks k y)
  | [], [], .nil => fun y hy => by cases hy
  | _ :: _, n :: _, .cons ⟨t', e⟩ h => fun y hy => by
    rcases List.mem_cons.mp hy with e2 | e2
    · rw [e2, e]
      exact SeqRoads2.EqGives.str n k t' t
    · exact eqks_gives h y e2
theorem eqks_count {k : Str} : ∀ {us : List Value} {ns : List Str}, Vals (ns.map V.str) us → us.countP (eqks k) = ns.count k
  | [], [], .nil => rfl
  | _ :: _, n :: _, .cons ⟨t', e⟩ h => by
    have ih := eqks_count (k := k) h
    rw [List.countP_cons, List.count_cons, ih, e]
    show _ + (if (n.cps.toList == k.cps.toList) = true then 1 else 0) = _
    rw [eqks_eq]
def rCntS (K : PySem.W.Frag) : V → List V → Hp → VK → Prop := fun x xs H Q => ∃ (p : Addr) (ns : List Str) (k : Str), x = .ref p ∧ xs = [.str k] ∧ SqL K H p (ns.map V.str) ∧ Q (.int (ns.count k : Nat)) H
theorem mt_lcountS {X : Cx} {K : PySem.W.Frag} (h : X.K = K := by rfl) : MtR X "list.count" (rCntS K) := by
  subst h
  intro pins s σ H x xs v us Q I rx rxs h
  obtain ⟨p, ns, k, rfl, rfl, hs, q⟩ := h
  cases rx
  obtain ⟨u, rfl, ru⟩ := rxs.one
  obtain ⟨t, rfl⟩ := ru
  obtain ⟨its, rv, ⟨⟨cls, dd, data, sl⟩, n, ho, hc, hdn, hd⟩, hlen⟩ := I.list hs
  simp only at hc hd
  subst hc hd
  refine call_meets PySem.F.slot_list_count ⟨_, ho, rfl⟩ PySem.F.entry_list_count (PySem.F.args_list_count_2 _ _)
    (SeqAt.list_countAt p its.toArray n dd sl (.str k t) (eqks k)) ⟨ho, fun y hy => (eqks_gives rv y (by simpa using hy)).at _ _, ?_⟩
  have ec : its.toArray.toList.countP (eqks k) = ns.count k := eqks_count rv
  refine ⟨.int (ns.count k : Nat), H, I.tok _, ⟨s.toks, ?_⟩, q⟩
  show Value.int ((its.toArray.toList.countP (eqks k) : Nat) : Int) s.toks = Value.int ((ns.count k : Nat) : Int) s.toks
  rw [ec]
end St

namespace St
open PySem PySem.Spec PyProof.Rows L2
/-! ### keys of any depth -/
mutual
/-- the value v is the key k -/
inductive KyN (K : PySem.W.Frag) (H : Hp) : NestedKey → V → Prop
  | non : KyN K H .none .non
  | bl (b : Bool) : KyN K H (.num (if b = true then 1 else 0)) (.bl b)
  | int (i : Int) : KyN K H (.num i) (.int i)
  | str (x : Str) : KyN K H (.text x) (.str x)
  | tup {a : Addr} {xs : List V} {ks : List NestedKey} : SqT K H a xs → KyAll K H ks xs → KyN K H (.tup ks) (.ref a)
inductive KyAll (K : PySem.W.Frag) (H : Hp) : List NestedKey → List V → Prop
  | nil : KyAll K H [] []
  | cons {k : NestedKey} {ks : List NestedKey} {v : V} {vs : List V} : KyN K H k v → KyAll K H ks vs → KyAll K H (k :: ks) (v :: vs)
end
mutual
theorem KyN.imm {K : PySem.W.Frag} {H H' : Hp} (e : Imm H H') : ∀ {k : NestedKey} {v : V}, KyN K H k v → KyN K H' k v
  | _, _, .non => .non
  | _, _, .bl b => .bl b
  | _, _, .int i => .int i
  | _, _, .str x => .str x
  | _, _, .tup h a => .tup (e.t h) (KyAll.imm e a)
theorem KyAll.imm {K : PySem.W.Frag} {H H' : Hp} (e : Imm H H') : ∀ {k : List NestedKey} {v : List V}, KyAll K H k v → KyAll K H' k v
  | _, _, .nil => .nil
  | _, _, .cons h t => .cons (KyN.imm e h) (KyAll.imm e t)
end
section
variable {X : Cx} {pins : List (Addr × Obj)} {σ : L2.St} {H : Hp} {s : Shared}
mutual
theorem KyN.is (I : Inv X pins σ H s) : ∀ (k : NestedKey) (v : V) (u : Value), KyN X.K H k v → RelV v u → NestedIs s.heap k u
  | .none, _, _, h, r => by
    cases h
    cases r
    exact .none
  | .num i, _, _, h, r => by
    cases h with
    | bl b =>
      cases r
      exact .bool rfl
    | int i =>
      obtain ⟨t, rfl⟩ := r
      exact .int _ _
  | .text x, _, _, h, r => by
    cases h
    obtain ⟨t, rfl⟩ := r
    exact .text _ _
  | .tup ks, _, _, h, r => by
    cases h with
    | tup hs ha =>
      cases r
      obtain ⟨its, rv, ⟨o, ho, hc, n, hd⟩, _⟩ := I.tuple hs
      exact .tup ho hc hd (by simpa using KyAll.is I ks _ its ha rv)
theorem KyAll.is (I : Inv X pins σ H s) : ∀ (ks : List NestedKey) (vs : List V) (us : List Value), KyAll X.K H ks vs → Vals vs us → NestedAll s.heap ks us
  | [], _, _, h, r => by
    cases h
    cases r
    exact .nil
  | k :: ks, _, _, h, r => by
    cases h with
    | cons h1 h2 =>
      cases r with
      | cons r1 r2 => exact .cons (KyN.is I k _ _ h1 r1) (KyAll.is I ks _ _ h2 r2)
end
end
/-! ### a dict of such keys -/
abbrev NE := NestedKey × Addr × V
def NR : List NE → List (NestedKey × Addr × Value) → Prop := Paired fun p q => p.1 = q.1 ∧ p.2.1 = q.2.1 ∧ RelV p.2.2 q.2.2
def phN (P : Program) (w : World) (a : Addr) (xs : List NE) : Heap → Prop := fun h => xs.length ≤ sizeLine ∧ (a == sysModules) = false ∧ ∃ ys, NR xs ys ∧
  ∃ o es ep, h.get? a = some o ∧ o.ExactDict ∧ o.data = .dict es ep ∧ es.toList = ys.map (entryOfKey (nestedKind P w)) ∧ (ys.map (·.1)).Nodup
/-- the dict at a, its entries: key, the key's own tuple, value -/
def oN (P : Program) (w : World) (a : Addr) (xs : List NE) : HO := .ext (phN P w a xs)
def KsN (K : PySem.W.Frag) (H : Hp) (xs : List NE) : Prop := ∀ x ∈ xs, KyN K H x.1 (.ref x.2.1) ∧ x.1.depth ≤ 8
theorem KsN.imm {K : PySem.W.Frag} {H H' : Hp} {xs : List NE} (h : KsN K H xs) (e : Imm H H') : KsN K H' xs := fun x m => ⟨(h x m).1.imm e, (h x m).2⟩
def atN (xs : List NE) (k : NestedKey) : Option V := (xs.find? fun x => decide (x.1 = k)).map (·.2.2)
def putN (xs : List NE) (k : NestedKey) (b : Addr) (v : V) : List NE := if (atN xs k).isSome then xs.map (fun x => if x.1 = k then (x.1, x.2.1, v) else x) else xs ++ [(k, b, v)]
theorem NR.at_ {xs : List NE} {ys : List (NestedKey × Addr × Value)} (r : NR xs ys) (k : NestedKey) : RelO (atN xs k) ((atKey ys k).map (·.2)) := by
  unfold NR at r
  induction r with
  | nil => exact True.intro
  | @cons p q ps qs h t ih =>
    obtain ⟨h1, h2, h3⟩ := h
    by_cases e : p.1 = k
    · have e' : q.1 = k := h1.symm.trans e
      have a1 : atN (p :: ps) k = some p.2.2 := by simp [atN, List.find?_cons, e]
      have a2 : atKey (q :: qs) k = some q.2 := by simp [atKey, List.find?_cons, e']
      rw [a1, a2]
      exact h3
    · have e' : ¬ q.1 = k := fun z => e (h1.trans z)
      have a1 : atN (p :: ps) k = atN ps k := by simp [atN, List.find?_cons, e]
      have a2 : atKey (q :: qs) k = atKey qs k := by simp [atKey, List.find?_cons, e']
      rw [a1, a2]
      exact ih
theorem NR.repl {xs : List NE} {ys : List (NestedKey × Addr × Value)} (r : NR xs ys) (k : NestedKey) {v : V} {u : Value} (ru : RelV v u) :
    NR (xs.map (fun x => if x.1 = k then (x.1, x.2.1, v) else x)) (ys.map (putAt k u)) := by
  unfold NR at r ⊢
  induction r with
  | nil => exact .nil
  | @cons p q ps qs h t ih =>
    rw [List.map_cons, List.map_cons]
    refine .cons ?_ ih
    obtain ⟨h1, h2, h3⟩ := h
    unfold putAt
    by_cases e : p.1 = k
    · rw [if_pos e, if_pos (h1.symm.trans e)]; exact ⟨h1, h2, ru⟩
    · rw [if_neg e, if_neg (fun z => e (h1.trans z))]; exact ⟨h1, h2, h3⟩
theorem NR.put {xs : List NE} {ys : List (NestedKey × Addr × Value)} (r : NR xs ys) (k : NestedKey) (b : Addr) {v : V} {u : Value} (ru : RelV v u) : NR (putN xs k b v) (storedH ys k b u) := by
  have e : (atN xs k).isSome = (atKey ys k).isSome := by
    rw [(r.at_ k).isSome_eq, Option.isSome_map]
  unfold putN storedH
  rw [e]
  by_cases q : (atKey ys k).isSome = true
  · rw [if_pos q, if_pos q]; exact r.repl k ru
  · rw [if_neg q, if_neg q]; exact Paired.snoc r ⟨rfl, rfl, ru⟩
theorem length_putN (xs : List NE) (k : NestedKey) (b : Addr) (v : V) : (putN xs k b v).length ≤ xs.length + 1 := by
  unfold putN
  split
  · rw [List.length_map]; omega
  · rw [List.length_append, List.length_cons, List.length_nil]; omega
section
variable {X : Cx} {pins : List (Addr × Obj)} {σ : L2.St} {H : Hp} {s : Shared} {a : Addr} {xs : List NE}
theorem oN_rd (I : Inv X pins σ H s) (e : Rd H a (oN X.prog X.w a xs)) (ks : KsN X.K H xs) : xs.length ≤ sizeLine ∧ (a == sysModules) = false ∧ ∃ ys, NR xs ys ∧ s.heap.DictOfH (nestedKind X.prog X.w) a ys := by
  obtain ⟨⟨z, y, ys, r, o, es, ep, h1, h2, h3, h4, h5⟩, _⟩ := (show ObjOk X.prog X.w H s.heap a (oN X.prog X.w a xs) from e.ok I.hok)
  refine ⟨z, y, ys, r, o, es, ep, h1, h2, h3, h4, fun x hx => ?_, h5⟩
  have all : ∀ {l : List NE} {m : List (NestedKey × Addr × Value)}, NR l m → KsN X.K H l → ∀ x ∈ m, (nestedKind X.prog X.w).is s.heap x.1 x.2.1 := by
    intro l m q
    unfold NR at q
    induction q with
    | nil => intro _ x hx; exact nomatch hx
    | @cons p q ps qs hq t ih =>
      intro kl x hx
      rcases List.mem_cons.mp hx with e | hx
      · subst e
        have k0 := kl p List.mem_cons_self
        obtain ⟨e1, e2, _⟩ := hq
        rw [e1, e2] at k0
        exact ⟨KyN.is I _ _ _ k0.1 rfl, k0.2⟩
      · exact ih (fun y hy => kl y (List.mem_cons_of_mem _ hy)) x hx
  exact all r ks x hx
theorem phN_of {P : Program} {w : World} {h : Heap} {xs : List NE} {ys : List (NestedKey × Addr × Value)} (z : xs.length ≤ sizeLine) (y : (a == sysModules) = false) (r : NR xs ys) (d : h.DictOfH (nestedKind P w) a ys) {H' : Hp} : ObjOk P w H' h a (oN P w a xs) := by
  obtain ⟨o, es, ep, h1, h2, h3, h4, _, h5⟩ := d
  exact ⟨⟨z, y, ys, r, o, es, ep, h1, h2, h3, h4, h5⟩, ⟨o, h1⟩, fun h1' h2' ⟨z, y, ys, r, o, es, ep, h1, h2⟩ k => ⟨z, y, ys, r, o, es, ep, k _ h1, h2⟩⟩
end
/-! ### rules -/
def tNIn (ty td : TE) (P : Program) (w : World) (K : PySem.W.Frag) (n : Bool) : TE := fun σ H Q => ty σ H fun y H1 => td σ H1 fun x H2 => ∃ a b k xs, x = .ref a ∧ y = .ref b ∧ Rd H2 a (oN P w a xs) ∧ KsN K H2 xs ∧ KyN K H2 k (.ref b) ∧ k.depth ≤ 8 ∧ Q (.bl (n != (atN xs k).isSome)) H2
def tNGet (td ty : TE) (P : Program) (w : World) (K : PySem.W.Frag) : TE := fun σ H Q => td σ H fun x H1 => ty σ H1 fun y H2 => ∃ a b k xs v, x = .ref a ∧ y = .ref b ∧ Rd H2 a (oN P w a xs) ∧ KsN K H2 xs ∧ KyN K H2 k (.ref b) ∧ k.depth ≤ 8 ∧ atN xs k = some v ∧ Q v H2
def sNPut (td ty tv : TE) (P : Program) (w : World) (K : PySem.W.Frag) : TS := fun D σ H => tv σ H fun v H1 => td σ H1 fun x H2 => ty σ H2 fun y H3 => ∃ a b k xs, x = .ref a ∧ y = .ref b ∧ H3 a = some (oN P w a xs) ∧ KsN K H3 xs ∧ KyN K H3 k (.ref b) ∧ k.depth ≤ 8 ∧ xs.length < sizeLine ∧ D.nx σ (upd H3 a (oN P w a (putN xs k b v)))
def tNNew (P : Program) (w : World) : TE := fun _ H Q => ∀ p, H p = none → Q (.ref p) (upd H p (oN P w p []))
section
variable {X : Cx} {o i e value : Expr} {pos pos' tpos : Pos} {td ty tv : TE}
theorem nst_room {A : Around} (hu : A.units + 9 < cLine) {P : Program} {w : World} : (nestedKind P w).room A.in1 := by
  show A.in1.units + 8 < cLine
  simp only [Around.in1_units]
  omega
theorem oN_typeIs {pins : List (Addr × Obj)} {σ : L2.St} {H : Hp} {s : Shared} {a : Addr} {xs : List NE} (I : Inv X pins σ H s) (e : Rd H a (oN X.prog X.w a xs)) (ks : KsN X.K H xs) : s.TypeIs (.ref a) "dict" := by
  obtain ⟨_, _, ys, _, d⟩ := oN_rd I e ks
  exact d.typeIs
theorem pc_nin (hu : X.A.units + 9 < cLine) (hi : PE X i ty) (ho : PE X o td) : PC X .In i o (tNIn ty td X.prog X.w X.K false) := by
  refine ⟨fun pins s σ H Q I h => ?_⟩
  refine thn (hi.run pins s σ H _ I h) fun iv s1 ⟨y, H1, I1, ry, q1⟩ => thn (ho.run pins s1 σ H1 _ I1 q1) fun u s2 ⟨x, H2, I2, rx, a, b, k, xs, ex, ey, rd, ks, ky, kd, q2⟩ => ?_
  subst ex ey
  obtain rfl : u = Value.ref a := rx
  cases (show iv = Value.ref b from ry)
  obtain ⟨z, hd, ys, rel, dd⟩ := oN_rd I2 rd ks
  refine wpAny_in_heap (k := k) (nst_room hu) ⟨KyN.is I2 _ _ _ ky rfl, kd⟩ hd dd ⟨_, H2, I2.tok _, ?_, q2⟩
  have q := (rel.at_ k).isSome_eq
  rw [Option.isSome_map] at q
  rw [← q]
  simp
  rfl
theorem pc_nnotin (hu : X.A.units + 9 < cLine) (hi : PE X i ty) (ho : PE X o td) : PC X .NotIn i o (tNIn ty td X.prog X.w X.K true) := by
  refine ⟨fun pins s σ H Q I h => ?_⟩
  refine thn (hi.run pins s σ H _ I h) fun iv s1 ⟨y, H1, I1, ry, q1⟩ => thn (ho.run pins s1 σ H1 _ I1 q1) fun u s2 ⟨x, H2, I2, rx, a, b, k, xs, ex, ey, rd, ks, ky, kd, q2⟩ => ?_
  subst ex ey
  obtain rfl : u = Value.ref a := rx
  cases (show iv = Value.ref b from ry)
  obtain ⟨z, hd, ys, rel, dd⟩ := oN_rd I2 rd ks
  refine wpAny_notIn_heap (k := k) (nst_room hu) ⟨KyN.is I2 _ _ _ ky rfl, kd⟩ hd dd ⟨_, H2, I2.tok _, ?_, q2⟩
  have q := (rel.at_ k).isSome_eq
  rw [Option.isSome_map] at q
  rw [← q]
  simp
  rfl
theorem pe_nget (hu : X.A.units + 9 < cLine) (ho : PE X o td) (hi : PE X i ty) (hs : NoSl i) : PE X (.Subscript o i pos) (tNGet td ty X.prog X.w X.K) := by
  refine ⟨fun pins s σ H Q I h => ?_⟩
  refine subD_of PySem.F.slot_dict_getitem.lookup hs (thn (ho.run pins s σ H _ I h) fun u s1 ⟨x, H1, I1, rx, q1⟩ => thn (hi.run pins s1 σ H1 _ I1 q1) fun iv s2 ⟨y, H2, I2, ry, a, b, k, xs, v, ex, ey, rd, ks, ky, kd, l, q2⟩ => ?_)
  subst ex ey
  obtain rfl : u = Value.ref a := rx
  cases (show iv = Value.ref b from ry)
  obtain ⟨z, hd, ys, rel, dd⟩ := oN_rd I2 rd ks
  obtain ⟨w', hw, rw'⟩ := RelO.some_of (v := v) (o := (atKey ys k).map (·.2)) (by rw [← l]; exact rel.at_ k)
  obtain ⟨p, hp, hp2⟩ := Option.map_eq_some_iff.mp hw
  refine ⟨dd.typeIs, wpAny_getItem_heap (nst_room hu) ⟨KyN.is I2 _ _ _ ky rfl, kd⟩ dd hp ?_⟩
  rw [hp2]
  exact ⟨v, H2, I2.tok _, rw', q2⟩
theorem ps_nput (hu : X.A.units + 9 < cLine) (ho : PE X o td) (hi : PE X i ty) (hv : PE X value tv) (hs : swapsWith value (some (.Subscript o i pos')) pos.line X.env = pure false) :
    PS X (.Assign [.Subscript o i pos'] value pos) (sNPut td ty tv X.prog X.w X.K) := by
  refine ⟨fun pins s σ H D I h => ?_⟩
  refine wpAny_Assign_Subscript (thn (hv.run pins s σ H _ I h) fun r s1 ⟨v, H1, I1, rv, q1⟩ => thn (ho.run pins s1 σ H1 _ I1 q1) fun u s2 ⟨x, H2, I2, rx, q2⟩ => thn (hi.run pins s2 σ H2 _ I2 q2) fun iv s3 ⟨y, H3, I3, ry, a, b, k, xs, ex, ey, rd, ks, ky, kd, l, q3⟩ => ?_) hs
  subst ex ey
  obtain rfl : u = Value.ref a := rx
  cases (show iv = Value.ref b from ry)
  obtain ⟨z, hd, ys, rel, dd⟩ := oN_rd I3 (.inl rd) ks
  have hz : ys.length ≤ sizeLine := by rw [← Paired.length rel]; exact z
  have hl : (putN xs k b v).length ≤ sizeLine := by have := length_putN xs k b v; omega
  refine wpAny_setItem_heap (hsz := hz) (nst_room hu) ⟨KyN.is I3 _ _ _ ky rfl, kd⟩ dd fun h' dd' hs' => ⟨σ, _, ?_, q3⟩
  have he : ∃ q, h'.get? a = some q := let ⟨q, _, _, hq, _⟩ := dd'; ⟨q, hq⟩
  exact d_write I3 (by rw [rd]; exact True.intro) hs' he (phN_of hl hd (rel.put k b rv) dd')
theorem on_empty {P : Program} {w : World} {H : Hp} (h : Heap) (hb : sysModules < h.objs.size) : ObjOk P w H (h.push { cls := .type "dict", data := .dict #[] }) h.objs.size (oN P w h.objs.size []) :=
  phN_of (Nat.zero_le _) (beq_eq_false_iff_ne.mpr (Ne.symm (Nat.ne_of_lt hb))) .nil (Heap.DictOfH.new h)
theorem pe_nnew : PE X (.Dict [] [] pos) (tNNew X.prog X.w) := ⟨fun pins s σ H Q I h =>
  wpAny_Dict_empty ⟨.ref s.heap.objs.size, _, I.laid (a := s.heap.objs.size) (t' := s.toks) (fun _ _ q => Heap.get?_push_of_some _ q) (Nat.le_refl _) (on_empty s.heap I.big), rfl, h _ (I.hok.fresh (Nat.le_refl _))⟩⟩
/-- {k: v}; the new dict stands empty while they are made -/
def tNDisp (tk tv : TE) (P : Program) (w : World) (K : PySem.W.Frag) : TE := fun σ H Q => ∀ p, H p = none → tk σ (upd H p (oN P w p [])) fun x H1 => tv σ H1 fun v H2 => ∃ b k, x = .ref b ∧ H2 p = some (oN P w p []) ∧ KyN K H2 k (.ref b) ∧ k.depth ≤ 8 ∧ Q (.ref p) (upd H2 p (oN P w p [(k, b, v)]))
theorem pe_ndisp {k v : Expr} {tk : TE} (hu : X.A.units + 9 < cLine) (hk : PE X k tk) (hv : PE X v tv) : PE X (.Dict [some k] [v] pos) (tNDisp tk tv X.prog X.w X.K) := by
  refine ⟨fun pins s σ H Q I q => ?_⟩
  have hn := I.hok.fresh (Nat.le_refl s.heap.objs.size)
  have I1 := I.laid (a := s.heap.objs.size) (o := oN X.prog X.w s.heap.objs.size []) (h' := s.heap.push { cls := .type "dict", data := .dict #[] }) (t' := s.toks) (fun _ _ q => Heap.get?_push_of_some _ q) (Nat.le_refl _) (on_empty s.heap I.big)
  have q := q _ hn
  rw [arm_eval_Dict]
  have hn' := pairTrees_length [some k] [v] X.env pos rfl rfl
  have hz := zip_pairTrees [some k] [v] X.env pos rfl rfl
  rw [hz, dictDisplay_pairs (pairTrees [some k] [v] X.env pos) (fun z => by rw [z] at hn'; cases hn') (by rw [hn']; exact (show 1 < 17 by omega))]
  refine wpAny_bind (wpAny_standAt (wpAny_bind (wpAny_subDictH (knd := nestedKind X.prog X.w) (Q := fun d s' => wpAny (model X.prog X.w) X.A (pure (Value.ref d)) _ X.xe s') (show X.A.units + 8 < cLine by omega) (by rw [hn']; exact (show 1 ≤ 15 by omega)) ?_)))
  refine pairTrees_cons_walk (thn (hk.run pins _ σ _ _ I1 q) fun u s1 ⟨x, H1, I2, rx, q1⟩ => thn (hv.run pins s1 σ H1 _ I2 q1) fun w2 s2 ⟨y, H2, I3, ry, b, kk, ex, e, ky, kd, q2⟩ => pairTrees_nil_walk ?_)
  subst ex
  obtain rfl : u = Value.ref b := rx
  obtain ⟨z, hd, ys, rel, dd⟩ := oN_rd I3 (.inl e) (fun _ m => nomatch m)
  cases rel
  refine ⟨[(kk, b, w2)], ⟨rfl, rfl, ⟨KyN.is I3 _ _ _ ky rfl, kd⟩, True.intro⟩, dd, fun h' tk a c => wpAny_pure ⟨.ref s.heap.objs.size, _, ?_, rfl, q2⟩⟩
  have he : ∃ q, h'.get? s.heap.objs.size = some q := let ⟨q, _, _, hq, _⟩ := a; ⟨q, hq⟩
  refine d_write I3 (by rw [e]; exact True.intro) c he (phN_of (ys := [(kk, b, w2)]) (by show 1 ≤ sizeLine; decide) hd (.cons ⟨rfl, rfl, ry⟩ .nil) a)
end
/-! ### for k in d, the dict locked -/
def ItN (P : Program) (w : World) (d : Addr) (o : Obj) (xs : List NE) : It :=
  ⟨fun i H => H d = some (.frz o (oN P w d xs)) ∧ i < xs.length, fun i H x H' => H' = H ∧ ∃ k v b, xs[i]? = some (k, b, v) ∧ x = .ref b, fun i H => H d = some (.frz o (oN P w d xs)) ∧ xs.length ≤ i⟩
section
variable {X : Cx} {pins : List (Addr × Obj)} {σ : L2.St} {H : Hp} {s : Shared} {d : Addr} {o : Obj} {xs : List NE}
theorem Inv.frzN (I : Inv X pins σ H s) (h : H d = some (.frz o (oN X.prog X.w d xs))) :
    (d == sysModules) = false ∧ s.heap.get? d = some o ∧ o.ExactDict ∧ ∃ (es : Array DictEntry) (ep : Nat), o.data = .dict es ep ∧ es.size = xs.length ∧
      ∀ (i : Nat) (k : NestedKey) (b : Addr) (v : V), xs[i]? = some (k, b, v) → ∃ en : DictEntry, es[i]? = some en ∧ en.key = .ref b := by
  obtain ⟨hd, ⟨z, hs, ys, pr, o', es, ep, ho, hx, hdt, he, _⟩, _⟩ := I.hok d _ h
  rw [hd] at ho
  cases ho
  refine ⟨hs, hd, hx, es, ep, hdt, ?_, fun i k b v e => ?_⟩
  · have l1 : es.size = ys.length := size_of_entries he
    have l2 : xs.length = ys.length := Paired.length pr
    omega
  · obtain ⟨y, hy, e1, e2, _⟩ := paired_get pr e
    have q := entry_at he i
    rw [hy] at q
    refine ⟨_, q, ?_⟩
    show Value.ref y.2.1 = _
    rw [← e2]
theorem turn_keysN {P : Program} {w : World} {K : PySem.W.Frag} {tg : Expr} {es : Array DictEntry} {ep : Nat} (it : Addr) (hod : o.data = .dict es ep) : Turn P w K tg (ItN P w d o xs) [it] it (fun i h => h.IsKeyIter it d i xs.length ep) where
  mem := by simp
  obj := fun i h st b hb => by
    have e : b = it := by simpa using hb
    subst e
    obtain ⟨oi, e, c, dd⟩ := st
    exact ⟨oi, e, fun v z => by rw [dd] at z; cases z⟩
  keep := fun i h h' st k => st.at fun oi e => k it (by simp) oi e
  item := by
    intro X hP hw hK hc i pins s σ H E I hf st hg
    subst hP hw hK
    obtain ⟨hd, hi⟩ := hg
    obtain ⟨f0, f1, f2, f3, f4, f5⟩ := hf it (by simp)
    obtain ⟨hs, hgd, hx, es', ep', hdt, hsz, ent⟩ := Inv.frzN I hd
    obtain ⟨rfl, rfl⟩ := dict_ep hod hdt
    obtain ⟨⟨k, b, v⟩, hkv⟩ : ∃ p, xs[i]? = some p := ⟨xs[i], List.getElem?_eq_getElem hi⟩
    obtain ⟨en, hen, hkey⟩ := ent i k b v hkv
    refine next_key_item st hgd hdt hsz hen fun h' st' sb => ?_
    have I1 : Inv X pins σ H { s with heap := h' } := I.turned (t' := s.toks) (fun b ob hb e => (sb.2 b hb).trans e) f0 f1 f3 f4 f5
    obtain ⟨oi, e, c, dd⟩ := id st'
    exact ⟨en.key, rfl, go_of (s := { s with heap := h' }) e c dd (by decide) ⟨.ref b, H, I1, hkey, ⟨rfl, k, v, b, hkv, rfl⟩, st', fun b hb => (hf b hb).1⟩⟩
  done := by
    intro X hP hw hK hc i pins s σ H E I hf st hg
    subst hP hw hK
    obtain ⟨hd, hi⟩ := hg
    obtain ⟨f0, f1, f2, f3, f4, f5⟩ := hf it (by simp)
    obtain ⟨hs, hgd, hx, es', ep', hdt, hsz, ent⟩ := Inv.frzN I hd
    obtain ⟨rfl, rfl⟩ := dict_ep hod hdt
    exact next_key_end (I.ok.hd hc) st hgd hdt hsz hi fun h' eb => ⟨rfl, I.turned (t' := s.toks) (fun b ob hb e => eb b ob hb e) f0 f1 f3 f4 f5⟩
  self := fun A i s Q E st h => by
    refine wpAny_pyIter_slot st.typeIs F.slot_dict_keyiterator_iter (wpAny_call_entry F.slot_dict_keyiterator_iter st.typeIs F.entry_dict_keyiterator_iter ?_ (F.args_dict_keyiterator_iter_1 _))
    show wpAny _ _ (ret (.ref it)) _ _ s
    exact wpAny_pure ⟨_, rfl, "dict_keyiterator", _, st.typeIs, F.slot_dict_keyiterator_next.lookup, h⟩
end
def iKeysN (td : TE) (P : Program) (w : World) : TI := fun σ H R => td σ H fun x H1 => ∃ d o xs, x = .ref d ∧ H1 d = some (.frz o (oN P w d xs)) ∧ R (ItN P w d o xs) H1
theorem pi_keysN {X : Cx} {tg e : Expr} {td : TE} (he : PE X e td) : PI X tg e (iKeysN td X.prog X.w) := by
  refine ⟨fun pins s σ H R I h => ?_⟩
  refine thn (he.run pins s σ H _ I h) fun u s1 ⟨x, H1, I1, rx, d, o, xs, ex, hd, q⟩ => ?_
  subst ex
  obtain rfl : u = Value.ref d := rx
  obtain ⟨hs, hgd, hx, es, ep, hdt, hsz, ent⟩ := Inv.frzN I1 hd
  refine iter_keys hs hgd hx hdt (pi_one (tk := s1.toks) I1 _ (turn_keysN _ hdt) ⟨_, Heap.get?_push_size _ rfl, rfl, ?_⟩ q)
  rw [hsz] <;> rfl
/-! ### pairs of a number and a list, in order -/
def toDP (p : Int × List Int) : PyData := PySem.W.Datum.toD p
def rLtD (K : PySem.W.Frag) : R2 := fun x y H Q => ∃ p q : Int × List Int, Dp K H x (toDP p) ∧ Dp K H y (toDP q) ∧ Q (.bl (PySem.W.DatumOrd.lt p q)) H
theorem op_ltD {X : Cx} (hu : X.A.units + 9 < cLine) : OpR X (compareOp .Lt) (rLtD X.K) := by
  intro pins s σ H x y v u Q I rx ry h
  obtain ⟨p, q, hp, hq, k⟩ := h
  have h1 := Dp.reads I _ x v hp rx
  have h2 := Dp.reads I _ y u hq ry
  exact PySem.W.lt_datum (x := p) (y := q) h1 h2 (by have : PySem.W.Datum.depth (Int × List Int) = 2 := rfl; omega) ⟨.bl _, H, I, rfl, k⟩
def rMinD (K : PySem.W.Frag) : List V → Hp → VK → Prop := fun vs H Q => ∃ (a : Addr) (xs : List V) (x : Int × List Int) (ts : List (Int × List Int)), vs = [.ref a] ∧ SqL K H a xs ∧ DpAll K H xs ((x :: ts).map toDP) ∧
  ∀ v (i : Nat), xs[i]? = some v → (x :: ts)[i]? = some (PySem.W.minOf x ts) → Q v H
theorem toDP_inj {p q : Int × List Int} (h : toDP p = toDP q) : p = q := by
  have h : PyData.tuple [.int p.1, .list (p.2.map PyData.int)] = PyData.tuple [.int q.1, .list (q.2.map PyData.int)] := h
  injection h with h
  injection h with h1 h2
  injection h1 with h1
  injection h2 with h2
  injection h2 with h2
  refine Prod.ext h1 ?_
  have : ∀ {l m : List Int}, l.map PyData.int = m.map PyData.int → l = m := by
    intro l
    induction l with
    | nil => intro m h; cases m with
      | nil => rfl
      | cons => nomatch h
    | cons a l ih => intro m h; cases m with
      | nil => nomatch h
      | cons b m =>
        rw [List.map_cons, List.map_cons] at h
        injection h with h1 h2
        injection h1 with h1
        rw [h1, ih h2]
  exact this h2
theorem reads_all_at {h : Heap} : ∀ {us : List Value} {ds : List PyData} {as : List Addr} {i : Nat} {u : Value}, ReadsAll h us ds as → us[i]? = some u → ∃ d bs, ds[i]? = some d ∧ Reads h u d bs
  | _, _, _, 0, _, .cons h _, e => by cases Option.some.inj e; exact ⟨_, _, rfl, h⟩
  | _, _, _, i + 1, _, .cons _ t, e => by
    obtain ⟨d, bs, h1, h2⟩ := reads_all_at (i := i) t e
    exact ⟨d, bs, h1, h2⟩
  | _, _, _, 0, _, .nil, e => nomatch e
  | _, _, _, _ + 1, _, .nil, e => nomatch e
theorem dp_all_at {K : PySem.W.Frag} {H : Hp} : ∀ {us : List V} {ds : List PyData} {i : Nat} {u : V}, DpAll K H us ds → us[i]? = some u → ∃ d, ds[i]? = some d ∧ Dp K H u d
  | _, _, 0, _, .cons h _, e => by cases Option.some.inj e; exact ⟨_, rfl, h⟩
  | _, _, i + 1, _, .cons _ t, e => dp_all_at (i := i) t e
  | _, _, 0, _, .nil, e => nomatch e
  | _, _, _ + 1, _, .nil, e => nomatch e

theorem vals_at' : ∀ {xs : List V} {us : List Value} {i : Nat} {u : Value}, Vals xs us → us[i]? = some u → ∃ x, xs[i]? = some x ∧ RelV x u
  | _, _, 0, _, .cons h _, e => by cases Option.some.inj e; exact ⟨_, rfl, h⟩
  | _, _, i + 1, _, .cons _ t, e => vals_at' (i := i) t e
  | _, _, 0, _, .nil, e => nomatch e
  | _, _, _ + 1, _, .nil, e => nomatch e
theorem cr_minD {X : Cx} (hc : X.calm = true) (hu : X.A.units + 9 < cLine) : CallR X (.builtin "min") (rMinD X.K) := by
  intro pins s σ H vs us Q I r h
  obtain ⟨a, xs, x, ts, rfl, hs, hd, q⟩ := h
  obtain ⟨its, rv, hl, _⟩ := I.list hs
  rw [Vals.ref1 r]
  obtain ⟨as, ra⟩ := Dp.readsAll I _ _ _ hd rv
  refine PySem.W.min_list_datum (x := x) (xs := ts) (I.ok.hd hc) hl.isList ⟨as, by rw [List.toList_toArray]; exact ra⟩ (by have : PySem.W.Datum.depth (Int × List Int) = 2 := rfl; omega) fun i v h' tk hi hh hk => ?_
  have I1 : Inv X pins σ H { s with heap := h', toks := tk } := I.kept (t' := tk) hk
  have hi' : its[i]? = some v := by simpa using hi
  obtain ⟨y, hy, ry⟩ := vals_at' rv hi'
  obtain ⟨d, e, dp⟩ := dp_all_at hd hy
  obtain ⟨bs, rb⟩ := Dp.reads I _ _ _ dp ry
  obtain ⟨cs, rc⟩ := hh
  have u := (PyProof.Rows.Reads.keeps hk rb).unique _ _ rc
  have e := e.trans (congrArg some (show d = toDP (PySem.W.minOf x ts) from u.1))
  rw [List.getElem?_map] at e
  obtain ⟨z, e1, e2⟩ := Option.map_eq_some_iff.mp e
  exact ⟨y, H, I1, ry, q y i hy (e1.trans (congrArg some (toDP_inj e2)))⟩
/-! ### the same with the program and the frag told -/
section
variable {X : Cx} {o i e value : Expr} {pos pos' tpos : Pos} {td ty tv : TE} {P : Program} {w : World} {K : PySem.W.Frag}
theorem pc_ninK (hu : X.A.units + 9 < cLine) (hi : PE X i ty) (ho : PE X o td) (h1 : X.prog = P := by rfl) (h2 : X.w = w := by rfl) (h3 : X.K = K := by rfl) : PC X .In i o (tNIn ty td P w K false) := by subst h1 h2 h3; exact pc_nin hu hi ho
theorem pc_nnotinK (hu : X.A.units + 9 < cLine) (hi : PE X i ty) (ho : PE X o td) (h1 : X.prog = P := by rfl) (h2 : X.w = w := by rfl) (h3 : X.K = K := by rfl) : PC X .NotIn i o (tNIn ty td P w K true) := by subst h1 h2 h3; exact pc_nnotin hu hi ho
theorem pe_ngetK (hu : X.A.units + 9 < cLine) (ho : PE X o td) (hi : PE X i ty) (hs : NoSl i) (h1 : X.prog = P := by rfl) (h2 : X.w = w := by rfl) (h3 : X.K = K := by rfl) : PE X (.Subscript o i pos) (tNGet td ty P w K) := by subst h1 h2 h3; exact pe_nget hu ho hi hs
theorem ps_nputK (hu : X.A.units + 9 < cLine) (ho : PE X o td) (hi : PE X i ty) (hv : PE X value tv) (hs : swapsWith value (some (.Subscript o i pos')) pos.line X.env = pure false) (h1 : X.prog = P := by rfl) (h2 : X.w = w := by rfl) (h3 : X.K = K := by rfl) :
    PS X (.Assign [.Subscript o i pos'] value pos) (sNPut td ty tv P w K) := by subst h1 h2 h3; exact ps_nput hu ho hi hv hs
theorem pe_nnewK (h1 : X.prog = P := by rfl) (h2 : X.w = w := by rfl) : PE X (.Dict [] [] pos) (tNNew P w) := by subst h1 h2; exact pe_nnew
theorem pe_ndispK {k v : Expr} {tk : TE} (hu : X.A.units + 9 < cLine) (hk : PE X k tk) (hv : PE X v tv) (h1 : X.prog = P := by rfl) (h2 : X.w = w := by rfl) (h3 : X.K = K := by rfl) : PE X (.Dict [some k] [v] pos) (tNDisp tk tv P w K) := by subst h1 h2 h3; exact pe_ndisp hu hk hv
theorem pi_keysNK {tg e : Expr} {td : TE} (he : PE X e td) (h1 : X.prog = P := by rfl) (h2 : X.w = w := by rfl) : PI X tg e (iKeysN td P w) := by subst h1 h2; exact pi_keysN he
theorem op_ltDK (hu : X.A.units + 9 < cLine) (h3 : X.K = K := by rfl) : OpR X (compareOp .Lt) (rLtD K) := by subst h3; exact op_ltD hu
theorem cr_minDK (hc : X.calm = true) (hu : X.A.units + 9 < cLine) (h3 : X.K = K := by rfl) : CallR X (.builtin "min") (rMinD K) := by subst h3; exact cr_minD hc hu
end
end St

namespace St
open PySem PySem.Spec PyProof.Rows L2
abbrev s_turn_cost : Stmt := topS 52
abbrev N_turn_cost : List Str := ["events", "weights", "words", "word", "place"]
abbrev p_turn_cost : List Str := ["events", "weights"]
theorem sc_turn_cost : FnScope N_turn_cost p_turn_cost (defScope s_turn_cost) := ⟨rfl, rfl, rfl, by decide +kernel, rfl, by decide +kernel, by decide +kernel⟩
abbrev s_need_rows : Stmt := topS 54
abbrev N_need_rows : List Str := ["most", "places", "length", "rows", "turn"]
abbrev p_need_rows : List Str := ["most", "places", "length"]
theorem sc_need_rows : FnScope N_need_rows p_need_rows (defScope s_need_rows) := ⟨rfl, rfl, rfl, by decide +kernel, rfl, by decide +kernel, by decide +kernel⟩
theorem hn_of {A : Around} (h : A.units + 64 < cLine) : A.units + 9 < cLine := by omega
def cntW (x : Str) (es : Evs) : Nat := (es.map fun e => e.1).count x
/-- what a turn costs -/
def turnC (es : Evs) (w : Wts) : Int := ((cntW "late" es : Nat) : Int) * w.a + ((cntW "miss" es : Nat) : Int) * w.b + ((cntW "waste" es : Nat) : Int) * w.c
theorem cntW_le (x : Str) (es : Evs) : cntW x es ≤ es.length := by
  unfold cntW
  exact Nat.le_trans List.count_le_length (by rw [List.length_map]; exact Nat.le_refl _)
section
variable {P : Program} {w : World} {K : PySem.W.Frag} {mg : Str → Option Value} {base : Heap} {f : Addr} {fd : FuncData}
def spTC (K : PySem.W.Frag) : Sp := fun vs H Q _ => ∃ (ev wp : Addr) (es : Evs) (w : Wts), vs = [.ref ev, .ref wp] ∧ IsEv K H ev es ∧ IsW K H wp w ∧ w.Good ∧ es.length ≤ 1000 ∧ ∀ H', Same H H' → Q (.int (turnC es w)) H'
theorem ok_turn_cost (F : Fun K "turn_cost" "turn_cost" s_turn_cost f fd) : FnOk P w K mg base CX0 1 f fd p_turn_cost (spTC K) := by
  refine F.ok sc_turn_cost (fun vs H Q E h => ?_) (fun cdv A outer s H vs Q E hr h => ?_)
  · obtain ⟨ev, wp, es, w, rfl, _⟩ := h
    rfl
  obtain ⟨ev, wp, es, wt, rfl, ⟨as, h1, h2⟩, hw, ⟨⟨a0, a9⟩, ⟨b0, b9⟩, c0, c9⟩, hl, q⟩ := h
  have hw : SqT K H wp [.int wt.a, .int wt.b, .int wt.c] := hw
  have las : as.length = es.length := Paired.length h2
  refine ⟨_, (pss_cons (ps_setLc (i := 2) (own := [("word", 3), ("place", 4)]) (g := (gTup K 2 (gCons (gName 3) (gCons (gName 4) gNil)))) rfl sc_turn_cost.nd rfl rfl (sw_true rfl rfl rfl (by decide +kernel)) (pi_list (pv 0)) (blkOk_by (own := [("word", 3), ("place", 4)]) (N := N_turn_cost) (sc := defScope s_turn_cost) (by decide +kernel)) (fun _ _ _ _ _ => pg_tup rfl (pgs_cons (pg_name (i := 3) sc_turn_cost.nd rfl (Or.inl rfl)) (pgs_cons (pg_name (i := 4) sc_turn_cost.nd rfl (Or.inl rfl)) pgs_nil))) (fun _ _ _ _ _ => pts_nil) (fun _ _ _ _ _ => (pv 3)))
  (pss_one (ps_ret (pe_op op_add (pe_op op_add (pe_op op_mul (pe_bm PySem.F.plainAttrs_list PySem.F.slot_list_count PySem.F.type_list_count mt_lcountS (pv 2) (pa_cons pe_str pa_nil)) (pe_ix ix_tup (pv 1) pe_int (fun _ _ => rfl))) (pe_op op_mul (pe_bm PySem.F.plainAttrs_list PySem.F.slot_list_count PySem.F.type_list_count mt_lcountS (pv 2) (pa_cons pe_str pa_nil)) (pe_ix ix_tup (pv 1) pe_int (fun _ _ => rfl)))) (pe_op op_mul (pe_bm PySem.F.plainAttrs_list PySem.F.slot_list_count PySem.F.type_list_count mt_lcountS (pv 2) (pa_cons pe_str pa_nil)) (pe_ix ix_tup (pv 1) pe_int (fun _ _ => rfl))))))), ?_⟩
  refine ⟨_, rfl, ev, rfl, ⟨_, sql h1⟩, fun D nD => ?_⟩
  refine lc_list (xs := as.map V.ref) (fun j H2 => Same H H2 ∧ H2 D = some (.lst (((es.map fun e => e.1).take j).map V.str))) ⟨same_upd nD, upd_same⟩ (fun j H2 _ h => sql (h.1 _ _ h1)) (fun j y H2 hj h => ?_) (fun H2 h => ?_)
  · obtain ⟨s3, eD⟩ := h
    obtain ⟨u2, oo, rfl, hu2, tk2, eg2⟩ := pr_at (h2.imm (Imm.same s3)) hj
    obtain ⟨o1, o2⟩ := oo
    have hu2 : SqT K H2 u2 [.str o1, .int o2] := hu2
    refine ⟨u2, _, rfl, hu2, rfl, _, _, rfl, _, _, rfl, rfl, ?_⟩
    refine ⟨rfl, ?_⟩
    and_intros
    refine ⟨_, eD, by rw [List.length_map, List.length_take, List.length_map]; exact szl (by omega), same_mut s3 nD, ?_⟩
    rw [upd_same, List.take_add_one, List.getElem?_map, eg2, List.map_append]
    rfl
  · obtain ⟨s3, eD⟩ := h
    rw [show (es.map fun e => e.1).take (as.map V.ref).length = es.map fun e => e.1 from List.take_of_length_le (by rw [List.length_map, List.length_map, las]; exact Nat.le_refl _)] at eD
    have eD : SqL K H2 D ((es.map fun e => e.1).map V.str) := sql eD
    have hw2 := same_t s3 hw
    have c1 := cntW_le "late" es
    have c2 := cntW_le "miss" es
    have c3 := cntW_le "waste" es
    have e0 : ∀ x : Str, (es.map fun e => e.1).count x = cntW x es := fun _ => rfl
    refine ⟨_, rfl, .inl ⟨rfl, _, eD⟩, ?_⟩
    and_intros
    refine ⟨D, _, "late", rfl, rfl, eD, ?_⟩
    refine ⟨_, rfl, _, _, _, _, rfl, rfl, hw2, atI_nat (j := 0) rfl, _, _, rfl, rfl, .inr (by omega), ?_⟩
    refine ⟨_, rfl, .inl ⟨rfl, _, eD⟩, ?_⟩
    and_intros
    refine ⟨D, _, "miss", rfl, rfl, eD, ?_⟩
    refine ⟨_, rfl, _, _, _, _, rfl, rfl, hw2, atI_nat (j := 1) rfl, _, _, rfl, rfl, .inr (by omega), _, _, rfl, rfl, ?_⟩
    refine ⟨_, rfl, .inl ⟨rfl, _, eD⟩, ?_⟩
    and_intros
    refine ⟨D, _, "waste", rfl, rfl, eD, ?_⟩
    refine ⟨_, rfl, _, _, _, _, rfl, rfl, hw2, atI_nat (j := 2) rfl, _, _, rfl, rfl, .inr (by omega), _, _, rfl, rfl, ?_⟩
    exact q H2 s3
end
end St

namespace St
open PySem PySem.Spec PyProof.Rows L2
structure CnsR (mg : Str → Option Value) : Prop where
  MOST_ASKED : ∃ t, mg "MOST_ASKED" = some (.int 4 t)
  MOST_LENGTH : ∃ t, mg "MOST_LENGTH" = some (.int 7 t)
  MOST_ROWS : ∃ t, mg "MOST_ROWS" = some (.int 1024 t)
section
variable {P : Program} {w : World} {K : PySem.W.Frag} {mg : Str → Option Value} {base : Heap} {f : Addr} {fd : FuncData}
def spNR : Sp := fun vs H Q _ => ∃ (m : Int) (n k : Nat), vs = [.int m, .int ((n : Nat) : Int), .int ((k : Nat) : Int)] ∧ 1 ≤ n ∧ n ≤ 4 ∧ ((n : Nat) : Int) ≤ m ∧ k ≤ 7 ∧ n ^ k ≤ 1024 ∧ Q .non H
theorem ok_need_rows (T : Nms mg) (Cn : CnsR mg) (F : Fun K "need_rows" "need_rows" s_need_rows f fd) : FnOk P w K mg base CX0 1 f fd p_need_rows spNR := by
  refine F.ok sc_need_rows (fun vs H Q E h => ?_) (fun cdv A outer s H vs Q E hr h => ?_)
  · obtain ⟨m, n, k, rfl, _⟩ := h
    rfl
  obtain ⟨m, n, k, rfl, h1, h4, hm, hk, hp, q⟩ := h
  refine ⟨_, (pss_cons (ps_if (PW.pt (pw_or (pt_not (pt_chain op_le op_le pe_int (pv 1) (pe_callB (call_min2 rfl) (by rfl) T.n_min (by decide +kernel) (pa_cons (pe_gint (by rfl) Cn.MOST_ASKED) (pa_cons (pv 0) pa_nil))))) (pw_or1 (pt_not (pt_chain op_le op_le pe_int (pv 2) (pe_gint (by rfl) Cn.MOST_LENGTH))))))
    (pss_one (ps_never))
    (pss_nil))
  (pss_cons (ps_set (i := 3) sc_need_rows.nd rfl (Or.inl rfl) pe_int)
  (pss_cons (ps_for PassesOwn.never rfl (pi_range1 rfl T.n_range (pa_cons (pv 2) pa_nil)) (pg_name (i := 4) sc_need_rows.nd rfl (Or.inl rfl))
    (pss_one (ps_set (i := 3) sc_need_rows.nd rfl (Or.inl rfl) (pe_op op_mul (pv 3) (pv 1)))))
  (pss_one (ps_if (pt_cmpR op_gt (pv 3) (pe_gint (by rfl) Cn.MOST_ROWS) (nomark _))
    (pss_one (ps_never))
    (pss_nil)))))), ?_⟩
  and_intros
  refine iteB (decide_eq_true (show (1 : Int) ≤ ((n : Nat) : Int) by omega)) ?_
  and_intros
  refine ⟨_, _, rfl, ?_⟩
  refine ⟨_, _, rfl, rfl, _, rfl, ?_⟩
  rw [decide_eq_true (show ((n : Nat) : Int) ≤ (if m < 4 then m else 4) by split <;> omega)]
  refine iteB0 (b := !true) rfl ?_
  and_intros
  rw [decide_eq_true (show ((k : Nat) : Int) ≤ 7 by omega)]
  refine iteB0 (b := !true) rfl ?_
  refine ⟨_, rfl, _, rfl, by omega, by omega, ?_⟩
  rw [show (((k : Nat) : Int)).toNat = k from Int.toNat_natCast _]
  refine for_range (lo := 0) (n := k) (fun i σ H' => ∃ y4, σ = [some (.int m), some (.int ((n : Nat) : Int)), some (.int ((k : Nat) : Int)), some (.int ((n ^ i : Nat) : Int)), y4] ∧ H' = H) ⟨none, rfl, rfl⟩ (fun i σ H' hi h => ?_) (fun σ H' h => ?_)
  · obtain ⟨y4, rfl, rfl⟩ := h
    have hle : n ^ i ≤ n ^ k := Nat.pow_le_pow_right h1 (by omega)
    refine ⟨_, rfl, _, rfl, _, _, rfl, rfl, .inr (by omega), ?_⟩
    refine ⟨some (.int (0 + (i : Nat))), ?_, rfl⟩
    rw [Nat.pow_succ, Int.natCast_mul]
    rfl
  · obtain ⟨y4, rfl, rfl⟩ := h
    refine ⟨_, rfl, _, _, rfl, rfl, _, rfl, iteB0 (decide_eq_false (by omega)) ?_⟩
    exact q
end
end St

namespace St
open PySem PySem.Spec PyProof.Rows L2
def GoodW (ws : List Int) : Prop := ws.length = 3 ∧ ∀ x ∈ ws, 0 ≤ x ∧ x ≤ 9
def badI (x : Int) : Bool := !(decide (0 ≤ x) && decide (x ≤ 9))
theorem goodW_of {ws : List Int} (h : ws.length = 3) (e : ws.filter badI = []) : GoodW ws := ⟨h, fun x hx => by
  have z := List.filter_eq_nil_iff.mp e x hx
  unfold badI at z
  simp only [Bool.not_eq_true, Bool.not_eq_false', Bool.and_eq_true, decide_eq_true_eq] at z
  exact z⟩
theorem goodW_to {ws : List Int} (h : GoodW ws) : ws.filter badI = [] := List.filter_eq_nil_iff.mpr fun x hx => by
  unfold badI
  obtain ⟨a, b⟩ := h.2 x hx
  rw [decide_eq_true a, decide_eq_true b]
  exact fun z => nomatch z
theorem goodW_w {ws : List Int} (h : GoodW ws) : ∃ w : Wts, ws = [w.a, w.b, w.c] ∧ w.Good := by
  obtain ⟨l, b⟩ := h
  match ws, l with
  | [x, y, z], _ => exact ⟨⟨x, y, z⟩, rfl, b x (by simp), b y (by simp), b z (by simp)⟩
theorem goodW_i {w : Wts} (h : w.Good) : GoodW [w.a, w.b, w.c] := ⟨rfl, fun x hx => by
  obtain ⟨h1, h2, h3⟩ := h
  simp only [List.mem_cons, List.not_mem_nil, or_false] at hx
  rcases hx with rfl | rfl | rfl
  · exact h1
  · exact h2
  · exact h3⟩
section
variable {P : Program} {w : World} {K : PySem.W.Frag} {mg : Str → Option Value} {base : Heap} {f CA CW : Addr} {fd : FuncData}
def spNWX (K : PySem.W.Frag) (CA : Addr) : Sp := fun vs H Q E => ∃ (p : Addr) (ws : List Int), vs = [.ref p] ∧ SqT K H p (ws.map V.int) ∧ ws.length ≤ 100 ∧ (GoodW ws → ∀ H', Same H H' → Q .non H') ∧ (¬ GoodW ws → errP CA H E)
theorem okX_need_weights (T : Nms mg) (hW : ∃ t, mg "MOST_WEIGHT" = some (.int 9 t)) (XE_BadAsk : ErrX K mg "BadAsk" CA CW) (XP_BadAsk : ErrP K CA) (F : Fun K "need_weights" "need_weights" s_need_weights f fd) : FnOk P w K mg base (L2.CX P w) 2 f fd p_need_weights (spNWX K CA) := by
  refine F.okX sc_need_weights (fun vs H Q E h => ?_) (fun cdv A outer s H vs Q E hr h => ?_)
  · obtain ⟨p, w, rfl, _⟩ := h
    rfl
  obtain ⟨p, ws, rfl, hw, l, q, qe⟩ := h
  refine ⟨_, (pss_one (ps_if (PW.pt (pw_or (pt_cmpR op_ne (pe_callB call_len_seq (by rfl) T.n_len (by decide +kernel) (pa_cons (pv 0) pa_nil)) pe_int (nomark _)) (pw_or1 (pt_cmpR (op_neD hr.units) (pe_lc (own := [("one", 1)]) (g := gName 1) rfl sc_need_weights.nd (pi_tup (pv 0)) (blkOk_by (own := [("one", 1)]) (N := N_need_weights) (sc := defScope s_need_weights) (by decide +kernel)) (fun _ _ _ _ _ => pg_name (i := 1) sc_need_weights.nd rfl (Or.inl rfl)) (fun _ _ _ _ _ => pts_one (pt_not (pt_chain op_le op_le pe_int (pv 1) (pe_gint (by rfl) hW)))) (fun _ _ _ _ _ => (pv 1))) (pe_lst pa_nil) (nomark _)))))
    (pss_one (ps_raise rfl (takes_of rfl rfl rfl rfl) (pmk_own PySem.F.excBase_ValueError XP_BadAsk XE_BadAsk.g XE_BadAsk.kp (raises_own XE_BadAsk.ex XE_BadAsk.ty) rfl)))
    (pss_nil))), ?_⟩
  have lw : (((ws.map V.int).length : Nat) : Int) = (ws.length : Int) := by rw [List.length_map]
  by_cases c : ws.length = 3
  · refine ⟨_, rfl, _, _, rfl, .inr hw, rfl, _, rfl, iteB0 (by rw [decide_eq_true (by rw [lw, c]; rfl)]; rfl) ?_⟩
    refine ⟨_, rfl, p, rfl, ⟨_, hw⟩, fun D nD => ?_⟩
    refine lc_tup (xs := ws.map V.int) (fun i H' => Same H H' ∧ H' D = some (.lst (((ws.take i).filter badI).map V.int))) ⟨same_upd nD, upd_same⟩ (fun i H' _ h => same_t h.1 hw) (fun i y H' hi h => ?_) (fun H' h => ?_)
    · obtain ⟨x, rfl, ex, et⟩ := at_ints hi
      have li := (List.getElem?_eq_some_iff.mp ex).1
      have e2 : (ws.take (i + 1)).filter badI = (ws.take i).filter badI ++ (if badI x = true then [x] else []) := by
        rw [et, List.filter_append]
        congr 1
        cases b : badI x
        · rw [List.filter_cons_of_neg (by rw [b]; exact fun z => nomatch z)]; rfl
        · rw [List.filter_cons_of_pos b]; rfl
      have fin : badI x = true → ∃ acc, H' D = some (.lst acc) ∧ acc.length < sizeLine ∧ (Same H (upd H' D (.lst (acc ++ [.int x]))) ∧ (upd H' D (.lst (acc ++ [.int x]))) D = some (.lst (((ws.take (i + 1)).filter badI).map V.int))) := fun b => by
        refine ⟨_, h.2, ?_, same_mut h.1 nD, ?_⟩
        · rw [List.length_map]
          have := List.length_filter_le badI (ws.take i)
          rw [List.length_take] at this
          exact szl (by omega)
        · rw [upd_same, e2, if_pos b, List.map_append]
          rfl
      have nof : badI x = false → Same H H' ∧ H' D = some (.lst (((ws.take (i + 1)).filter badI).map V.int)) := fun b => by
        refine ⟨h.1, ?_⟩
        rw [e2, if_neg (by rw [b]; exact fun z => nomatch z), List.append_nil]
        exact h.2
      and_intros
      by_cases c1 : 0 ≤ x
      · refine iteB (decide_eq_true c1) ?_
        refine ⟨_, _, rfl, rfl, _, rfl, ?_⟩
        by_cases c2 : x ≤ 9
        · rw [decide_eq_true c2]
          exact iteB0 (b := !true) rfl (nof (by unfold badI; rw [decide_eq_true c1, decide_eq_true c2]; rfl))
        · rw [decide_eq_false c2]
          exact iteB (b := !false) rfl ⟨_, rfl, fin (by unfold badI; rw [decide_eq_false c2, Bool.and_false]; rfl)⟩
      · refine iteB0 (decide_eq_false c1) ?_
        exact ⟨_, rfl, iteB (b := !false) rfl ⟨_, rfl, fin (by unfold badI; rw [decide_eq_false c1]; rfl)⟩⟩
    · rw [show (ws.map V.int).length = ws.length from List.length_map _, List.take_length] at h
      refine ⟨Nat.zero_le _, fun L nL => ?_⟩
      refine ⟨.list ((ws.filter badI).map .int), .list (([] : List Int).map .int), dp_ints (sql (same_upd nL _ _ h.2)), dp_ints (sql upd_same), lay_ints _, lay_ints [], ?_⟩
      rw [eqv_ints]
      refine ⟨_, rfl, ?_⟩
      by_cases g : GoodW ws
      · refine iteB0 (by rw [decide_eq_true (goodW_to g)]; rfl) ?_
        exact q g _ (h.1.trans (same_upd nL))
      · refine iteB (by rw [decide_eq_false (fun e => g (goodW_of c e))]; rfl) ?_
        exact qe g _ (h.1.trans (same_upd nL))
  · refine ⟨_, rfl, _, _, rfl, .inr hw, rfl, _, rfl, iteB (by rw [decide_eq_false (fun e => c (by rw [lw] at e; have := V.int.inj e; omega))]; rfl) ?_⟩
    exact iteB rfl (qe (fun g => c g.1) _ (Same.refl _))
/-- places, a length that may be asked -/
def GoodR (m n k : Int) : Prop := (1 ≤ n ∧ n ≤ 4 ∧ n ≤ m) ∧ (0 ≤ k ∧ k ≤ 7) ∧ n.toNat ^ k.toNat ≤ 1024
def spNRX (CA : Addr) : Sp := fun vs H Q E => ∃ (m n k : Int), vs = [.int m, .int n, .int k] ∧ (GoodR m n k → Q .non H) ∧ (¬ GoodR m n k → errP CA H E)
theorem okX_need_rows (T : Nms mg) (Cn : CnsR mg) (XE_BadAsk : ErrX K mg "BadAsk" CA CW) (XP_BadAsk : ErrP K CA) (F : Fun K "need_rows" "need_rows" s_need_rows f fd) : FnOk P w K mg base (L2.CX P w) 2 f fd p_need_rows (spNRX CA) := by
  refine F.okX sc_need_rows (fun vs H Q E h => ?_) (fun cdv A outer s H vs Q E hr h => ?_)
  · obtain ⟨m, n, k, rfl, _⟩ := h
    rfl
  obtain ⟨m, n, k, rfl, q, qe⟩ := h
  refine ⟨_, (pss_cons (ps_if (PW.pt (pw_or (pt_not (pt_chain op_le op_le pe_int (pv 1) (pe_callB (call_min2 rfl) (by rfl) T.n_min (by decide +kernel) (pa_cons (pe_gint (by rfl) Cn.MOST_ASKED) (pa_cons (pv 0) pa_nil))))) (pw_or1 (pt_not (pt_chain op_le op_le pe_int (pv 2) (pe_gint (by rfl) Cn.MOST_LENGTH))))))
    (pss_one (ps_raise rfl (takes_of rfl rfl rfl rfl) (pmk_own PySem.F.excBase_ValueError XP_BadAsk XE_BadAsk.g XE_BadAsk.kp (raises_own XE_BadAsk.ex XE_BadAsk.ty) rfl)))
    (pss_nil))
  (pss_cons (ps_set (i := 3) sc_need_rows.nd rfl (Or.inl rfl) pe_int)
  (pss_cons (ps_for (passes_of rfl) rfl (pi_range1 rfl T.n_range (pa_cons (pv 2) pa_nil)) (pg_name (i := 4) sc_need_rows.nd rfl (Or.inl rfl))
    (pss_one (ps_set (i := 3) sc_need_rows.nd rfl (Or.inl rfl) (pe_op op_mul (pv 3) (pv 1)))))
  (pss_one (ps_if (pt_cmpR op_gt (pv 3) (pe_gint (by rfl) Cn.MOST_ROWS) (nomark _))
    (pss_one (ps_raise rfl (takes_of rfl rfl rfl rfl) (pmk_own PySem.F.excBase_ValueError XP_BadAsk XE_BadAsk.g XE_BadAsk.kp (raises_own XE_BadAsk.ex XE_BadAsk.ty) rfl)))
    (pss_nil)))))), ?_⟩
  and_intros
  by_cases c1 : 1 ≤ n
  all_goals first
    | (refine iteB0 (decide_eq_false c1) ?_
       refine ⟨_, rfl, iteB (b := !false) rfl ?_⟩
       first | exact iteB rfl (qe (fun g => c1 g.1.1) _ (Same.refl _)) | exact qe (fun g => c1 g.1.1) _ (Same.refl _))
    | skip
  refine iteB (decide_eq_true c1) ?_
  and_intros
  refine ⟨_, _, rfl, ?_⟩
  refine ⟨_, _, rfl, rfl, _, rfl, ?_⟩
  by_cases c2 : n ≤ 4 ∧ n ≤ m
  all_goals first
    | (rw [decide_eq_false (show ¬ n ≤ (if m < 4 then m else 4) by split <;> omega)]
       refine iteB (b := !false) rfl ?_
       first | exact iteB rfl (qe (fun g => c2 g.1.2) _ (Same.refl _)) | exact qe (fun g => c2 g.1.2) _ (Same.refl _))
    | skip
  rw [decide_eq_true (show n ≤ (if m < 4 then m else 4) by split <;> omega)]
  refine iteB0 (b := !true) rfl ?_
  and_intros
  by_cases c3 : 0 ≤ k
  all_goals first
    | (refine iteB0 (decide_eq_false c3) ?_
       refine ⟨_, rfl, iteB (b := !false) rfl ?_⟩
       first | exact iteB rfl (qe (fun g => c3 g.2.1.1) _ (Same.refl _)) | exact qe (fun g => c3 g.2.1.1) _ (Same.refl _))
    | skip
  refine iteB (decide_eq_true c3) ?_
  refine ⟨_, _, rfl, rfl, _, rfl, ?_⟩
  by_cases c4 : k ≤ 7
  all_goals first
    | (rw [decide_eq_false c4]
       refine iteB (b := !false) rfl ?_
       first | exact iteB rfl (qe (fun g => c4 g.2.1.2) _ (Same.refl _)) | exact qe (fun g => c4 g.2.1.2) _ (Same.refl _))
    | skip
  rw [decide_eq_true c4]
  refine iteB0 (b := !true) rfl ?_
  obtain ⟨n, rfl⟩ : ∃ z : Nat, n = ((z : Nat) : Int) := ⟨n.toNat, by omega⟩
  obtain ⟨k, rfl⟩ : ∃ z : Nat, k = ((z : Nat) : Int) := ⟨k.toNat, by omega⟩
  have hp : n ^ k ≤ 4 ^ 7 := Nat.le_trans (Nat.pow_le_pow_left (by omega) k) (Nat.pow_le_pow_right (by decide) (by omega))
  have e4 : 4 ^ 7 = 16384 := by decide
  refine ⟨_, rfl, _, rfl, by omega, by omega, ?_⟩
  rw [show (((k : Nat) : Int)).toNat = k from Int.toNat_natCast _]
  refine for_range (lo := 0) (n := k) (fun i σ H' => ∃ y4, σ = [some (.int m), some (.int ((n : Nat) : Int)), some (.int ((k : Nat) : Int)), some (.int ((n ^ i : Nat) : Int)), y4] ∧ H' = H) ⟨none, rfl, rfl⟩ (fun i σ H' hi h => ?_) (fun σ H' h => ?_)
  · obtain ⟨y4, rfl, rfl⟩ := h
    have hle : n ^ i ≤ n ^ k := Nat.pow_le_pow_right (by omega) (by omega)
    refine ⟨_, rfl, _, rfl, _, _, rfl, rfl, .inr (by omega), ?_⟩
    refine ⟨some (.int (0 + (i : Nat))), ?_, rfl⟩
    rw [Nat.pow_succ, Int.natCast_mul]
    rfl
  · obtain ⟨y4, rfl, rfl⟩ := h
    refine ⟨_, rfl, _, _, rfl, rfl, _, rfl, ?_⟩
    by_cases c5 : n ^ k ≤ 1024
    · refine iteB0 (decide_eq_false (by omega)) ?_
      exact q ⟨⟨c1, c2⟩, ⟨c3, c4⟩, c5⟩
    · refine iteB (decide_eq_true (by omega)) ?_
      exact qe (fun g => c5 g.2.2) _ (Same.refl _)
end
end St

namespace St
open PySem PySem.Spec PyProof.Rows L2
section
variable {P : Program} {w : World} {K : PySem.W.Frag} {mg : Str → Option Value} {base : Heap} {f C CR CA CB CW : Addr} {fd : FuncData}
def spCostX (K : PySem.W.Frag) (CA CB : Addr) : Sp := fun vs H Q E => ∃ (sa ra wp : Addr) (v : V) (s : Stg) (g : G) (as : List Addr) (os : List OD) (ws : List Int), vs = [.ref sa, v, .ref ra, .ref wp] ∧ IsSet K H sa s ∧ s.Good ∧ IsG K H g v ∧ good 3 g = true ∧ IsRow K H ra as os ∧ SqT K H wp (ws.map V.int) ∧ ws.length ≤ 100 ∧
  (∀ i, FirstBad ((s.mem.length : Nat) : Int) os i → errF CB "number" (.int ((i : Nat) : Int)) H E) ∧ (AllGood ((s.mem.length : Nat) : Int) os → ¬ GoodW ws → errP CA H E) ∧ (AllGood ((s.mem.length : Nat) : Int) os → GoodW ws → ∀ u H', Same H H' → Q u H')
theorem okX_cost (N : NeedC K w mg) (S : RunCo K mg C CR) (O : CostCo K mg CR) (Er : ErrCo K mg CA CB CW) (F : Fun K "cost" "cost" s_cost f fd) : FnOk P w K mg base (L2.CX P w) 12 f fd p_cost (spCostX K CA CB) := by
  have T := S.T
  have KC_Run := S.KC_Run
  have D_need_setting := N.D_need_setting
  have D_need_guesser := N.D_need_guesser
  have D_need_row := N.D_need_row
  have D_need_weights := O.D_need_weights
  have D_weighed := O.D_weighed
  have D_Run___init__ := S.D_Run___init__
  have D_Run_counts := O.D_Run_counts
  have G_need_setting : FnOk P w K mg base CX0 1 N.fC N.fdC p_need_setting (spNeedSet K) := N.gS
  have G_need_guesser : FnOk P w K mg base CX0 6 N.fB N.fdB p_need_guesser (spNeedG K) := N.gG
  have G_need_row : FnOk P w K mg base (L2.CX P w) 4 N.fE N.fdE p_need_row (spNeedRowX K CB) := okX_need_row T N.Cn Er.WC Er.XE_BadRow Er.XI_BadRow Er.D_BadRow___init__ N.D_is_deed D_need_row.F
  have G_need_weights : FnOk P w K mg base (L2.CX P w) 2 O.f4 O.fd4 p_need_weights (spNWX K CA) := okX_need_weights T O.hW Er.XE_BadAsk Er.XP_BadAsk O.D_need_weights.F
  have G_weighed : FnOk P w K mg base CX0 1 O.f5 O.fd5 p_weighed (spWd K) := ok_weighed O.D_weighed.F
  have G_Run___init__ : FnOk P w K mg base CX0 8 S.fI S.fdI p_Run___init__ (spRunI K CR C) := S.ini
  have G_Run_counts : FnOk P w K mg base CX0 2 O.f2 O.fd2 p_Run_counts (spCounts K CR C) := O.gC S
  refine F.okX sc_cost (fun vs H Q E h => ?_) (fun cdv A outer s H vs Q E hr h => ?_)
  · obtain ⟨sa, ra, wp, v, s, g, as, ds, w, rfl, _⟩ := h
    rfl
  obtain ⟨sa, ra, wp, v, s, g, as, os, ws, rfl, hS, gS, hG, hg, hR, hw, lw, qr, qw, q⟩ := h
  refine ⟨_, (pss_cons (ps_expr (pe_call G_need_setting (hr.mono (by first | decide | omega)) (by rfl) D_need_setting.m D_need_setting.F.kp D_need_setting.b .nil pass0 (pa_cons (pv 0) pa_nil)))
  (pss_cons (ps_expr (pe_call G_need_guesser (hr.mono (by first | decide | omega)) (by rfl) D_need_guesser.m D_need_guesser.F.kp D_need_guesser.b .nil pass0 (pa_cons (pv 1) pa_nil)))
  (pss_cons (ps_expr (pe_callS G_need_row (hr.mono (by first | decide | omega)) (by rfl) D_need_row.m D_need_row.F.kp D_need_row.b (fun σ => passAt (takes_of rfl rfl rfl rfl) σ) (pa_cons (pe_callB call_len_seq (by rfl) T.n_len (by decide +kernel) (pa_cons (pe_ix ix_tup (pv 0) pe_int (fun _ _ => rfl)) pa_nil)) (pa_cons (pv 2) pa_nil))))
  (pss_cons (ps_expr (pe_callS G_need_weights (hr.mono (by first | decide | omega)) (by rfl) D_need_weights.m D_need_weights.F.kp D_need_weights.b (fun σ => passAt (takes_of rfl rfl rfl rfl) σ) (pa_cons (pv 3) pa_nil)))
  (pss_one (ps_ret (pe_call G_weighed (hr.mono (by first | decide | omega)) (by rfl) D_weighed.m D_weighed.F.kp D_weighed.b .nil pass0 (pa_cons (pe_meth0 (pe_make KC_Run.M G_Run___init__ (hr.mono (by first | decide | omega)) (by rfl) KC_Run.g D_Run___init__.b .nil pass0 (pa_cons (pv 0) (pa_cons (pv 1) (pa_cons (pv 2) pa_nil)))) KC_Run.cl D_Run_counts.m G_Run_counts (hr.mono (by first | decide | omega)) D_Run_counts.b .nil pass0) (pa_cons (pv 3) pa_nil))))))))), ?_⟩
  have el : (((s.mem.map V.int).length : Nat) : Int) = ((s.mem.length : Nat) : Int) := by rw [List.length_map]
  refine ⟨_, rfl, sa, s, rfl, hS, gS, fun H1 s1 => ?_⟩
  refine ⟨_, rfl, v, g, rfl, hG.same s1, hg, fun H2 s2 => ?_⟩
  have s12 := s1.trans s2
  obtain ⟨m, m1, m2⟩ := hS.imm (Imm.same s12)
  have hR2 := hR.same s12
  refine ⟨_, rfl, _, _, _, _, rfl, rfl, m1, atI_nat (j := 0) rfl, _, _, rfl, .inr m2, _, rfl, ?_⟩
  refine ⟨ra, as, _, os, rfl, hR2.l, hR2.p, hR2.few, hR2.len, fun ag => ?_, fun i fb => (qr i (by rw [el] at fb; exact fb)).after s12⟩
  rw [el] at ag
  have qw2 := qw ag
  have q2 := q ag
  clear qw q qr
  obtain ⟨ds, rfl, gd⟩ := all_deeds ag
  have hl := all_len ag
  rw [List.length_map] at hl
  refine ⟨_, rfl, wp, ws, rfl, same_t s12 hw, lw, fun ggw H3 s3 => ?_, fun ng => (qw2 ng).after s12⟩
  have q3 := q2 ggw
  clear q2
  obtain ⟨wt, rfl, gw⟩ := goodW_w ggw
  have hw : IsW K H wp wt := hw
  have s13 := s12.trans s3
  have hR3 := hR.same s13
  refine ⟨_, rfl, _, rfl, _, rfl, ?_⟩
  intro x dx nx ndx nex
  have sB : Same H3 (upd (upd H3 dx (.own x)) x (.ins CR dx [])) := fun b o e => by
    rw [upd_ne (ne_of_none e nx), upd_ne (ne_of_none e ndx)]
    exact e
  refine ⟨x, dx, sa, ra, v, s, g, H3, as, ds, rfl, upd_same, sB, nx, hS.imm (Imm.same s13), gS, hG.same s13, hg, hR3.l, hR3.p.deeds, gd, hl, fun h cA lA aA rA st H4 o => ?_⟩
  have iv := runTo_inv gS hg gd ds.length (Nat.le_refl _)
  have rl := iv.rl
  have l1 := iv.iv.l1
  have l2 := iv.iv.l2
  have r2 := gS.r2
  have w2 := gS.w2
  have l1 : (((runTo s g ds ds.length).st.1.length : Nat) : Int) ≤ s.rm := l1
  have l2 : (((runTo s g ds ds.length).st.2.1.length : Nat) : Int) ≤ s.ms := l2
  generalize runTo s g ds ds.length = r at o rl l1 l2
  refine ⟨rfl, x, dx, _, rfl, o.ob, rfl, ?_⟩
  refine ⟨x, dx, h, v, cA, lA, aA, rA, st, cfgOf s g, H3, r, rfl, o, by omega, by omega, by omega, fun kT H5 s5 hk => ?_⟩
  have s35 := o.s0.trans s5
  refine ⟨_, rfl, ?_⟩
  refine ⟨kT, wp, _, wt, rfl, hk, rfl, same_t (s13.trans s35) hw, gw, ?_⟩
  exact q3 _ H5 (s13.trans s35)
def spHeldX (K : PySem.W.Frag) (CA CB : Addr) : Sp := fun vs H Q E => ∃ (sa ga ra wp : Addr) (gv : List V) (s : Stg) (as : List Addr) (os : List OD) (ws : List Int), vs = [.ref sa, .ref ga, .ref ra, .ref wp] ∧ IsSet K H sa s ∧ s.Good ∧ SqL K H ga gv ∧ gv.length ≤ 100 ∧ (gv.length ≤ 8 → ∃ gs, PrG K H gv gs ∧ ∀ g ∈ gs, good 3 g = true) ∧ IsRow K H ra as os ∧ SqT K H wp (ws.map V.int) ∧ ws.length ≤ 100 ∧
  (8 < gv.length → errP CA H E) ∧ (gv.length ≤ 8 → ∀ i, FirstBad ((s.mem.length : Nat) : Int) os i → errF CB "number" (.int ((i : Nat) : Int)) H E) ∧ (gv.length ≤ 8 → AllGood ((s.mem.length : Nat) : Int) os → ¬ GoodW ws → errP CA H E) ∧ (gv.length ≤ 8 → AllGood ((s.mem.length : Nat) : Int) os → GoodW ws → ∀ u H', Same H H' → Q u H')
theorem okX_held (N : NeedC K w mg) (S : RunCo K mg C CR) (O : CostCo K mg CR) (hM : ∃ t, mg "MOST_GUESSERS" = some (.int 8 t)) (Er : ErrCo K mg CA CB CW) (F : Fun K "held" "held" s_held f fd) : FnOk P w K mg base (L2.CX P w) 12 f fd p_held (spHeldX K CA CB) := by
  have T := S.T
  have KC_Run := S.KC_Run
  have D_need_setting := N.D_need_setting
  have D_need_guesser := N.D_need_guesser
  have D_need_row := N.D_need_row
  have D_need_weights := O.D_need_weights
  have D_weighed := O.D_weighed
  have D_Run___init__ := S.D_Run___init__
  have D_Run_counts := O.D_Run_counts
  have XE_BadAsk := Er.XE_BadAsk
  have XP_BadAsk := Er.XP_BadAsk
  have G_need_setting : FnOk P w K mg base CX0 1 N.fC N.fdC p_need_setting (spNeedSet K) := N.gS
  have G_need_guesser : FnOk P w K mg base CX0 6 N.fB N.fdB p_need_guesser (spNeedG K) := N.gG
  have G_need_row : FnOk P w K mg base (L2.CX P w) 4 N.fE N.fdE p_need_row (spNeedRowX K CB) := okX_need_row T N.Cn Er.WC Er.XE_BadRow Er.XI_BadRow Er.D_BadRow___init__ N.D_is_deed D_need_row.F
  have G_need_weights : FnOk P w K mg base (L2.CX P w) 2 O.f4 O.fd4 p_need_weights (spNWX K CA) := okX_need_weights T O.hW Er.XE_BadAsk Er.XP_BadAsk O.D_need_weights.F
  have G_weighed : FnOk P w K mg base CX0 1 O.f5 O.fd5 p_weighed (spWd K) := ok_weighed O.D_weighed.F
  have G_Run___init__ : FnOk P w K mg base CX0 8 S.fI S.fdI p_Run___init__ (spRunI K CR C) := S.ini
  have G_Run_counts : FnOk P w K mg base CX0 2 O.f2 O.fd2 p_Run_counts (spCounts K CR C) := O.gC S
  refine F.okX sc_held (fun vs H Q E h => ?_) (fun cdv A outer s H vs Q E hr h => ?_)
  · obtain ⟨sa, ga, ra, wp, gv, s, as, os, ws, rfl, _⟩ := h
    rfl
  obtain ⟨sa, ga, ra, wp, gv, s, as, os, ws, rfl, hS, gS, hga, lga, hgs, hR, hw, lw, qg, qr, qw, q⟩ := h
  refine ⟨_, (pss_cons (ps_expr (pe_call G_need_setting (hr.mono (by first | decide | omega)) (by rfl) D_need_setting.m D_need_setting.F.kp D_need_setting.b .nil pass0 (pa_cons (pv 0) pa_nil)))
  (pss_cons (ps_if (pt_cmpR op_gt (pe_callB call_len_seq (by rfl) T.n_len (by decide +kernel) (pa_cons (pv 1) pa_nil)) (pe_gint (by rfl) hM) (nomark _))
    (pss_one (ps_raise rfl (takes_of rfl rfl rfl rfl) (pmk_own PySem.F.excBase_ValueError XP_BadAsk XE_BadAsk.g XE_BadAsk.kp (raises_own XE_BadAsk.ex XE_BadAsk.ty) rfl)))
    (pss_nil))
  (pss_cons (ps_for (passes_of rfl) rfl (pi_list (pv 1)) (pg_name (i := 4) sc_held.nd rfl (Or.inl rfl))
    (pss_one (ps_expr (pe_call G_need_guesser (hr.mono (by first | decide | omega)) (by rfl) D_need_guesser.m D_need_guesser.F.kp D_need_guesser.b .nil pass0 (pa_cons (pv 4) pa_nil)))))
  (pss_cons (ps_expr (pe_callS G_need_row (hr.mono (by first | decide | omega)) (by rfl) D_need_row.m D_need_row.F.kp D_need_row.b (fun σ => passAt (takes_of rfl rfl rfl rfl) σ) (pa_cons (pe_callB call_len_seq (by rfl) T.n_len (by decide +kernel) (pa_cons (pe_ix ix_tup (pv 0) pe_int (fun _ _ => rfl)) pa_nil)) (pa_cons (pv 2) pa_nil))))
  (pss_cons (ps_expr (pe_callS G_need_weights (hr.mono (by first | decide | omega)) (by rfl) D_need_weights.m D_need_weights.F.kp D_need_weights.b (fun σ => passAt (takes_of rfl rfl rfl rfl) σ) (pa_cons (pv 3) pa_nil)))
  (pss_one (ps_ret (pe_callB cr_sortedPO (by rfl) T.n_sorted (by decide +kernel) (pa_cons (pe_lc (own := [("k", 5), ("one", 6)]) (g := (gTup K 2 (gCons (gName 5) (gCons (gName 6) gNil)))) rfl sc_held.nd (pi_enum (by rfl) T.n_enumerate (pa_cons (pv 1) pa_nil)) (blkOk_by (own := [("k", 5), ("one", 6)]) (N := N_held) (sc := defScope s_held) (by decide +kernel)) (fun _ _ _ _ _ => pg_tup rfl (pgs_cons (pg_name (i := 5) sc_held.nd rfl (Or.inl rfl)) (pgs_cons (pg_name (i := 6) sc_held.nd rfl (Or.inl rfl)) pgs_nil))) (fun _ _ _ _ _ => pts_nil) (fun _ _ _ _ _ => (pe_tup (pa_cons (pe_call G_weighed (hr.mono (by first | decide | omega)) (by rfl) D_weighed.m D_weighed.F.kp D_weighed.b .nil pass0 (pa_cons (pe_meth0 (pe_make KC_Run.M G_Run___init__ (hr.mono (by first | decide | omega)) (by rfl) KC_Run.g D_Run___init__.b .nil pass0 (pa_cons (pv 0) (pa_cons (pv 6) (pa_cons (pv 2) pa_nil)))) KC_Run.cl D_Run_counts.m G_Run_counts (hr.mono (by first | decide | omega)) D_Run_counts.b .nil pass0) (pa_cons (pv 3) pa_nil))) (pa_cons (pv 5) pa_nil))))) pa_nil))))))))), ?_⟩
  have el : (((s.mem.map V.int).length : Nat) : Int) = ((s.mem.length : Nat) : Int) := by rw [List.length_map]
  refine ⟨_, rfl, sa, s, rfl, hS, gS, fun H1 s1 => ?_⟩
  have hga1 := same_l s1 hga
  refine ⟨_, rfl, _, _, rfl, .inl hga1, _, _, rfl, rfl, _, rfl, ?_⟩
  by_cases c : 8 < gv.length
  · refine iteB (decide_eq_true (by omega)) ?_
    exact qg c _ s1
  have c : gv.length ≤ 8 := by omega
  have qr := qr c
  have qw := qw c
  have q := q c
  obtain ⟨gs, pg, hg⟩ := hgs c
  have lgv : gv.length = gs.length := Paired.length pg
  have lg : gs.length ≤ 8 := by omega
  refine iteB0 (decide_eq_false (by omega)) ?_
  refine ⟨_, rfl, ga, rfl, ⟨_, hga1⟩, ?_⟩
  refine for_list (xs := gv) (fun i σ H' => ∃ y4, σ = [some (.ref sa), some (.ref ga), some (.ref ra), some (.ref wp), y4, none, none] ∧ Same H1 H') ⟨none, rfl, Same.refl _⟩ (fun i σ H' _ h => ?_) (fun i x σ H' hi h => ?_) (fun σ H2 h => ?_)
  · obtain ⟨y4, rfl, s2⟩ := h
    exact same_l s2 hga1
  · obtain ⟨y4, rfl, s2⟩ := h
    obtain ⟨g, eg, hGi⟩ := prg_at (pg.imm (Imm.same (s1.trans s2))) hi
    refine ⟨_, rfl, ?_⟩
    refine ⟨x, g, rfl, hGi, hg g (List.mem_of_getElem? eg), fun H3 s3 => ?_⟩
    exact ⟨_, rfl, s2.trans s3⟩
  · obtain ⟨y4, rfl, s2⟩ := h
    have s12 := s1.trans s2
    obtain ⟨m, m1, m2⟩ := hS.imm (Imm.same s12)
    have hR2 := hR.same s12
    refine ⟨_, rfl, _, _, _, _, rfl, rfl, m1, atI_nat (j := 0) rfl, _, _, rfl, .inr m2, _, rfl, ?_⟩
    refine ⟨ra, as, _, os, rfl, hR2.l, hR2.p, hR2.few, hR2.len, fun ag => ?_, fun i fb => (qr i (by rw [el] at fb; exact fb)).after s12⟩
    rw [el] at ag
    have qw2 := qw ag
    have q2 := q ag
    clear qw q qr
    obtain ⟨ds, rfl, gd⟩ := all_deeds ag
    have hl := all_len ag
    rw [List.length_map] at hl
    refine ⟨_, rfl, ?_⟩
    refine ⟨wp, ws, rfl, same_t s12 hw, lw, fun ggw H3 s3 => ?_, fun ng => (qw2 ng).after s12⟩
    have q3 := q2 ggw
    clear q2
    obtain ⟨wt, rfl, gw⟩ := goodW_w ggw
    have hw : IsW K H wp wt := hw
    have s13 := s12.trans s3
    refine ⟨_, rfl, ga, gv, rfl, same_l s13 hga, fun D nD => ?_⟩
    refine lc_it walk_enum (fun i H' => Same H3 H' ∧ ∃ bs : List Addr, H' D = some (.lst (bs.map V.ref)) ∧ PrT H' bs ((enumP (gs.map (costOf s ds wt))).take i)) ⟨same_upd nD, [], upd_same, .nil⟩ (fun i H' _ h => same_l (s13.trans h.1) hga) (fun i x H' H'' hi h y => ?_) (fun H' h => ?_)
    · obtain ⟨T0, x1, y1, rfl, nT, rfl, ex, ey⟩ := y
      cases Option.some.inj ex
      obtain ⟨s4, bs, eD, pb⟩ := h
      have s5 : Same H' (upd H' T0 (.tup [.int ((i : Nat) : Int), y1])) := same_upd nT
      have e5 : SqT K (upd H' T0 (.tup [.int ((i : Nat) : Int), y1])) T0 [.int ((i : Nat) : Int), y1] := sqt upd_same
      have eD5 := s5 _ _ eD
      have pb5 := pb.same s5
      have s35 := s4.trans s5
      generalize upd H' T0 (.tup [.int ((i : Nat) : Int), y1]) = H5 at s5 e5 eD5 pb5 s35 ⊢
      have s05 := s13.trans s35
      have hR5 := hR.same s05
      obtain ⟨g, eg, hGi⟩ := prg_at (pg.imm (Imm.same s05)) ey
      have hgg := hg g (List.mem_of_getElem? eg)
      refine ⟨T0, _, rfl, e5, rfl, _, _, rfl, _, _, rfl, rfl, rfl, ?_⟩
      refine ⟨_, rfl, _, rfl, _, rfl, ?_⟩
      intro x dx nx ndx nex
      have sB : Same H5 (upd (upd H5 dx (.own x)) x (.ins CR dx [])) := fun b o e => by
        rw [upd_ne (ne_of_none e nx), upd_ne (ne_of_none e ndx)]
        exact e
      refine ⟨x, dx, sa, ra, y1, s, g, H5, as, ds, rfl, upd_same, sB, nx, hS.imm (Imm.same s05), gS, hGi, hgg, hR5.l, hR5.p.deeds, gd, hl, fun h cA lA aA rA st H6 o => ?_⟩
      have iv := runTo_inv gS hgg gd ds.length (Nat.le_refl _)
      have rl := iv.rl
      have l1 := iv.iv.l1
      have l2 := iv.iv.l2
      have r2 := gS.r2
      have w2 := gS.w2
      have l1 : (((runTo s g ds ds.length).st.1.length : Nat) : Int) ≤ s.rm := l1
      have l2 : (((runTo s g ds ds.length).st.2.1.length : Nat) : Int) ≤ s.ms := l2
      have ec : (gs.map (costOf s ds wt))[i]? = some (weigh (countsP (runTo s g ds ds.length).rows (runTo s g ds ds.length).st) wt) := by rw [List.getElem?_map, eg]; rfl
      have et := enumP_take ec
      have li : i < gs.length := (List.getElem?_eq_some_iff.mp eg).1
      generalize runTo s g ds ds.length = r at o rl l1 l2 ec et
      refine ⟨rfl, x, dx, _, rfl, o.ob, rfl, ?_⟩
      refine ⟨x, dx, h, y1, cA, lA, aA, rA, st, cfgOf s g, H5, r, rfl, o, by omega, by omega, by omega, fun kT H7 s7 hk => ?_⟩
      have s57 := o.s0.trans s7
      refine ⟨_, rfl, ?_⟩
      refine ⟨kT, wp, _, wt, rfl, hk, rfl, same_t (s05.trans s57) hw, gw, ?_⟩
      refine ⟨_, rfl, sz_2, fun u nu => ?_⟩
      have eD7 := s57 _ _ eD5
      have s8 : Same H7 (upd H7 u (.tup [.int (weigh (countsP r.rows r.st) wt), .int ((i : Nat) : Int)])) := same_upd nu
      have eD8 := s8 _ _ eD7
      have pb8 := (pb5.same s57).same s8
      have lbs : bs.length = ((enumP (gs.map (costOf s ds wt))).take i).length := Paired.length pb
      rw [List.length_take] at lbs
      refine ⟨_, eD8, by rw [List.length_map]; exact szl (by omega), same_mut ((s35.trans s57).trans s8) nD, bs ++ [u], by rw [upd_same, List.map_append]; rfl, ?_⟩
      rw [et]
      refine Paired.snoc (pb8.updL ⟨_, eD8⟩) ?_
      rw [upd_ne (fun z => by
        rw [z] at nu
        rw [eD7] at nu
        cases nu)]
      exact upd_same
    · obtain ⟨s4, bs, eD, pb⟩ := h
      rw [show (enumP (gs.map (costOf s ds wt))).take gv.length = enumP (gs.map (costOf s ds wt)) from List.take_of_length_le (by unfold enumP; rw [List.length_map, List.length_range, List.length_map, lgv]; exact Nat.le_refl _)] at pb
      refine srt_ok (sql eD) pb fun p bs' qs np hp hq hs => ?_
      exact q3 _ _ ((s13.trans s4).trans (same_upd np))
end
end St

namespace St
open PySem PySem.Spec PyProof.Rows L2
/-! ### memory alone -/
def plainD (s : List Int × List Int) : Deed → List Int × List Int
  | (p, none) => (s.1 ++ [s.2.getD p.toNat 0], s.2)
  | (p, some v) => (s.1, s.2.set p.toNat v)
def plainP (mem : List Int) (ds : List Deed) : List Int × List Int := ds.foldl plainD ([], mem)
theorem plain_len (mem : List Int) : ∀ (ds : List Deed) (s : List Int × List Int), s.2.length = mem.length → (ds.foldl plainD s).2.length = mem.length ∧ (ds.foldl plainD s).1.length ≤ s.1.length + ds.length
  | [], s, h => ⟨h, Nat.le_refl _⟩
  | (p, none) :: ds, s, h => by
    obtain ⟨a, b⟩ := plain_len mem ds (plainD s (p, none)) h
    refine ⟨a, Nat.le_trans b ?_⟩
    show (s.1 ++ [_]).length + ds.length ≤ s.1.length + (ds.length + 1)
    rw [List.length_append]
    show s.1.length + 1 + _ ≤ _
    omega
  | (p, some v) :: ds, s, h => by
    obtain ⟨a, b⟩ := plain_len mem ds (plainD s (p, some v)) (by show (s.2.set _ _).length = _; rw [List.length_set]; exact h)
    refine ⟨a, Nat.le_trans b ?_⟩
    show s.1.length + ds.length ≤ s.1.length + (ds.length + 1)
    omega
end St

namespace St
open PySem PySem.Spec PyProof.Rows L2
/-! ### the counts of a run: what stands in balance -/
def cE (x : Str) (es : Evs) : Nat := (es.filter fun e => decide (e.1 = x)).length
def cR (x : Str) (rs : List (Int × Str × Int)) : Nat := (rs.filter fun e => decide (e.2.1 = x)).length
theorem cE_app (x : Str) (a b : Evs) : cE x (a ++ b) = cE x a + cE x b := by unfold cE; rw [List.filter_append, List.length_append]
theorem cE_nil (x : Str) : cE x [] = 0 := rfl
theorem cE_one (x y : Str) (p : Int) : cE x [(y, p)] = if y = x then 1 else 0 := by
  unfold cE
  rw [List.filter_cons]
  by_cases c : y = x
  · rw [if_pos (by simp [c]), if_pos c]; rfl
  · rw [if_neg (by simp [c]), if_neg c]; rfl
theorem cR_app (x : Str) (a b : List (Int × Str × Int)) : cR x (a ++ b) = cR x a + cR x b := by unfold cR; rw [List.filter_append, List.length_append]
def rowsE (t : Int) (es : Evs) : List (Int × Str × Int) := es.map fun e => (t, e.1, e.2)
theorem cR_rows (x : Str) (t : Int) (es : Evs) : cR x (rowsE t es) = cE x es := by
  unfold cR rowsE cE
  rw [List.filter_map, List.length_map]
  rfl
theorem evs_rowsE (t : Int) : ∀ (es : Evs) (s : RunS), (es.foldl (evS t) s).rows = s.rows ++ rowsE t es
  | [], s => (List.append_nil _).symm
  | e :: es, s => by
    rw [List.foldl_cons, evs_rowsE t es]
    show s.rows ++ [(t, e.1, e.2)] ++ rowsE t es = s.rows ++ ((t, e.1, e.2) :: rowsE t es)
    rw [List.append_assoc]
    rfl
theorem cnt1 (x : Str) (rs : List (Int × Str × Int)) : cntP [x] rs = cR x rs := by
  unfold cntP cR
  congr 1
  refine List.filter_congr fun e _ => ?_
  simp
theorem cnt2 {x y : Str} (h : x ≠ y) (rs : List (Int × Str × Int)) : cntP [x, y] rs = cR x rs + cR y rs := by
  unfold cntP cR
  induction rs with
  | nil => rfl
  | cons e r ih =>
    rw [List.filter_cons, List.filter_cons, List.filter_cons]
    by_cases c1 : e.2.1 = x
    · have c2 : ¬ e.2.1 = y := fun z => h (c1.symm.trans z)
      rw [if_pos (by simp [c1]), if_pos (by simp [c1]), if_neg (by simp [c2])]
      rw [List.length_cons, List.length_cons, ih]
      omega
    · by_cases c2 : e.2.1 = y
      · rw [if_pos (by simp [c2]), if_neg (by simp [c1]), if_pos (by simp [c2])]
        rw [List.length_cons, List.length_cons, ih]
        omega
      · rw [if_neg (by simp [c1, c2]), if_neg (by simp [c1]), if_neg (by simp [c2])]
        exact ih
def fN (sh : Shelf) : Nat := (sh.filter fun e => e.2).length
theorem fN_app (a b : Shelf) : fN (a ++ b) = fN a + fN b := by unfold fN; rw [List.filter_append, List.length_append]
theorem fN_one (p : Int) (w : Bool) : fN [(p, w)] = if w = true then 1 else 0 := by cases w <;> rfl
theorem fN_cons (e : Int × Bool) (r : Shelf) : fN (e :: r) = (if e.2 = true then 1 else 0) + fN r := by
  unfold fN
  rw [List.filter_cons]
  cases h : e.2
  · simp
  · simp; omega
/-- how many events tell of an ask -/
structure NoAsk (es : Evs) : Prop where
  h : cE "hit" es = 0
  f : cE "first" es = 0
  l : cE "late" es = 0
  m : cE "miss" es = 0
  s : cE "start" es = 0
theorem NoAsk.app {a b : Evs} (x : NoAsk a) (y : NoAsk b) : NoAsk (a ++ b) := by
  refine ⟨?_, ?_, ?_, ?_, ?_⟩ <;> rw [cE_app]
  · rw [x.h, y.h]
  · rw [x.f, y.f]
  · rw [x.l, y.l]
  · rw [x.m, y.m]
  · rw [x.s, y.s]
theorem laid_b (rm : Int) (sh : Shelf) (p : Int) (w : Bool) : NoAsk (laidP rm sh p w).2 ∧ fN (laidP rm sh p w).1 + cE "waste" (laidP rm sh p w).2 = fN sh + (if w = true then 1 else 0) := by
  unfold laidP
  split
  · cases sh with
    | nil => exact ⟨⟨rfl, rfl, rfl, rfl, rfl⟩, by show fN [(p, w)] + cE "waste" [] = fN [] + _; rw [fN_one, cE_nil]; show _ = 0 + _; omega⟩
    | cons e r =>
      obtain ⟨q, b⟩ := e
      cases b with
      | true =>
        refine ⟨⟨?_, ?_, ?_, ?_, ?_⟩, ?_⟩
        · show cE "hit" [(("waste" : Str), q)] = 0
          rw [cE_one, if_neg (by decide)]
        · show cE "first" [(("waste" : Str), q)] = 0
          rw [cE_one, if_neg (by decide)]
        · show cE "late" [(("waste" : Str), q)] = 0
          rw [cE_one, if_neg (by decide)]
        · show cE "miss" [(("waste" : Str), q)] = 0
          rw [cE_one, if_neg (by decide)]
        · show cE "start" [(("waste" : Str), q)] = 0
          rw [cE_one, if_neg (by decide)]
        · show fN (r ++ [(p, w)]) + cE "waste" [(("waste" : Str), q)] = fN ((q, true) :: r) + _
          have h1 : cE "waste" [(("waste" : Str), q)] = 1 := by rw [cE_one, if_pos rfl]
          have h2 : fN ((q, true) :: r) = 1 + fN r := by rw [fN_cons, if_pos rfl]
          rw [fN_app, fN_one, h1, h2]
          omega
      | false =>
        refine ⟨⟨?_, ?_, ?_, ?_, ?_⟩, ?_⟩
        · show cE "hit" [(("leave" : Str), q)] = 0
          rw [cE_one, if_neg (by decide)]
        · show cE "first" [(("leave" : Str), q)] = 0
          rw [cE_one, if_neg (by decide)]
        · show cE "late" [(("leave" : Str), q)] = 0
          rw [cE_one, if_neg (by decide)]
        · show cE "miss" [(("leave" : Str), q)] = 0
          rw [cE_one, if_neg (by decide)]
        · show cE "start" [(("leave" : Str), q)] = 0
          rw [cE_one, if_neg (by decide)]
        · show fN (r ++ [(p, w)]) + cE "waste" [(("leave" : Str), q)] = fN ((q, false) :: r) + _
          have h1 : cE "waste" [(("leave" : Str), q)] = 0 := by rw [cE_one, if_neg (by decide)]
          have h2 : fN ((q, false) :: r) = fN r := by rw [fN_cons, if_neg (by simp), Nat.zero_add]
          rw [fN_app, fN_one, h1, h2]
          omega
  · refine ⟨⟨rfl, rfl, rfl, rfl, rfl⟩, ?_⟩
    show fN (sh ++ [(p, w)]) + 0 = _
    rw [fN_app, fN_one]
    rfl
theorem noAsk_come (p : Int) : NoAsk [(("come" : Str), p)] ∧ cE "waste" [(("come" : Str), p)] = 0 := by
  refine ⟨⟨?_, ?_, ?_, ?_, ?_⟩, ?_⟩ <;> rw [cE_one, if_neg (by decide)]
theorem come_b (rm : Int) : ∀ (wy : Way) (sh : Shelf) (left : Way) (evs : Evs), NoAsk evs →
    NoAsk (wy.foldl (comeS rm) (sh, left, evs)).2.2 ∧ fN (wy.foldl (comeS rm) (sh, left, evs)).1 + (wy.foldl (comeS rm) (sh, left, evs)).2.1.length + cE "waste" (wy.foldl (comeS rm) (sh, left, evs)).2.2 = fN sh + left.length + wy.length + cE "waste" evs
  | [], sh, left, evs, h => ⟨h, rfl⟩
  | (p, t) :: wy, sh, left, evs, h => by
    rw [List.foldl_cons]
    by_cases c : t = 0
    · have e2 : comeS rm (sh, left, evs) (p, t) = ((laidP rm sh p true).1, left, evs ++ (laidP rm sh p true).2 ++ [(("come" : Str), p)]) := if_pos c
      rw [e2]
      obtain ⟨a, b⟩ := laid_b rm sh p true
      obtain ⟨n1, n2⟩ := noAsk_come p
      obtain ⟨i1, i2⟩ := come_b rm wy (laidP rm sh p true).1 left (evs ++ (laidP rm sh p true).2 ++ [(("come" : Str), p)]) ((h.app a).app n1)
      refine ⟨i1, ?_⟩
      rw [i2, cE_app, cE_app, n2, List.length_cons]
      rw [if_pos rfl] at b
      omega
    · have e2 : comeS rm (sh, left, evs) (p, t) = (sh, left ++ [(p, t - 1)], evs) := if_neg c
      rw [e2]
      obtain ⟨i1, i2⟩ := come_b rm wy sh (left ++ [(p, t - 1)]) evs h
      refine ⟨i1, ?_⟩
      rw [i2]
      simp only [List.length_append, List.length_cons, List.length_nil]
      omega
theorem filter_key {β : Type} {l : List (Int × β)} {p : Int} (nd : (ks l).Nodup) : (p ∉ ks l ∧ (l.filter fun e => decide (e.1 ≠ p)).length = l.length) ∨ (p ∈ ks l ∧ (l.filter fun e => decide (e.1 ≠ p)).length + 1 = l.length) := by
  induction l with
  | nil => exact .inl ⟨fun h => (nomatch h), rfl⟩
  | cons a r ih =>
    have nd' : (a.1 :: ks r).Nodup := nd
    rw [List.nodup_cons] at nd'
    rw [List.filter_cons]
    by_cases c : a.1 = p
    · refine .inr ⟨by show p ∈ a.1 :: ks r; rw [c]; exact List.mem_cons_self .., ?_⟩
      rw [if_neg (by simp [c])]
      rcases ih nd'.2 with ⟨_, h⟩ | ⟨h, _⟩
      · rw [h]; rfl
      · rw [← c] at h
        exact absurd h nd'.1
    · rw [if_pos (by simp [c])]
      rcases ih nd'.2 with ⟨h1, h⟩ | ⟨h1, h⟩
      · refine .inl ⟨fun z => ?_, by rw [List.length_cons, List.length_cons, h]⟩
        rcases List.mem_cons.mp z with z | z
        · exact c z.symm
        · exact h1 z
      · exact .inr ⟨List.mem_cons_of_mem _ h1, by rw [List.length_cons, List.length_cons]; omega⟩
theorem fN_out {sh : Shelf} {e : Int × Bool} (nd : (ks sh).Nodup) (he : e ∈ sh) : fN (sh.filter fun o => decide (o ≠ e)) + (if e.2 = true then 1 else 0) = fN sh := by
  induction sh with
  | nil => cases he
  | cons a r ih =>
    have nd' : (a.1 :: ks r).Nodup := nd
    rw [List.nodup_cons] at nd'
    rw [List.filter_cons]
    by_cases c : a = e
    · subst c
      rw [if_neg (by simp), fN_cons]
      have : r.filter (fun o => decide (o ≠ a)) = r := List.filter_eq_self.mpr fun o ho => decide_eq_true fun z => nd'.1 (List.mem_map.mpr ⟨o, ho, by rw [z]⟩)
      rw [this]
      omega
    · rw [if_pos (by simp [c]), fN_cons, fN_cons]
      rcases List.mem_cons.mp he with h | h
      · exact absurd h.symm c
      · have := ih nd'.2 h
        omega
/-- one ask -/
structure OneAsk (es : Evs) : Prop where
  n : cE "hit" es + cE "first" es + cE "late" es + cE "miss" es = 1
  s : cE "start" es = 0
theorem asked_b {rm : Int} {sh : Shelf} {wy : Way} {p : Int} (nd : (ks sh).Nodup) (nw : (ks wy).Nodup) : OneAsk (askedP rm sh wy p).2.2 ∧
    fN (askedP rm sh wy p).1 + (askedP rm sh wy p).2.1.length + cE "waste" (askedP rm sh wy p).2.2 + cE "first" (askedP rm sh wy p).2.2 + cE "late" (askedP rm sh wy p).2.2 = fN sh + wy.length := by
  unfold askedP
  cases f : sh.find? (fun e => decide (e.1 = p)) with
  | some x =>
    obtain ⟨hx, xp⟩ := find_ks f
    have o := fN_out nd hx
    obtain ⟨q, b⟩ := x
    show OneAsk [((if b then "first" else "hit" : Str), p)] ∧ fN (sh.filter (fun o => decide (o ≠ (q, b))) ++ [(p, false)]) + wy.length + cE "waste" [((if b then "first" else "hit" : Str), p)] + cE "first" [((if b then "first" else "hit" : Str), p)] + cE "late" [((if b then "first" else "hit" : Str), p)] = _
    rw [fN_app, show fN [(p, false)] = 0 from rfl]
    cases b with
    | true =>
      rw [if_pos rfl] at o ⊢
      refine ⟨⟨?_, ?_⟩, ?_⟩
      · rw [cE_one, cE_one, cE_one, cE_one, if_neg (by decide), if_pos rfl, if_neg (by decide), if_neg (by decide)]
      · rw [cE_one, if_neg (by decide)]
      · rw [cE_one, cE_one, cE_one, if_neg (by decide), if_pos rfl, if_neg (by decide)]
        omega
    | false =>
      rw [if_neg (by simp)] at o ⊢
      refine ⟨⟨?_, ?_⟩, ?_⟩
      · rw [cE_one, cE_one, cE_one, cE_one, if_pos rfl, if_neg (by decide), if_neg (by decide), if_neg (by decide)]
      · rw [cE_one, if_neg (by decide)]
      · rw [cE_one, cE_one, cE_one, if_neg (by decide), if_neg (by decide), if_neg (by decide)]
        omega
  | none =>
    obtain ⟨a, b⟩ := laid_b rm sh p false
    rw [if_neg (by simp)] at b
    show OneAsk ((laidP rm sh p false).2 ++ [((if (wy.filter fun e => decide (e.1 ≠ p)).length = wy.length then "miss" else "late" : Str), p)]) ∧ fN (laidP rm sh p false).1 + (wy.filter fun e => decide (e.1 ≠ p)).length + cE "waste" ((laidP rm sh p false).2 ++ [((if (wy.filter fun e => decide (e.1 ≠ p)).length = wy.length then "miss" else "late" : Str), p)]) + cE "first" ((laidP rm sh p false).2 ++ [((if (wy.filter fun e => decide (e.1 ≠ p)).length = wy.length then "miss" else "late" : Str), p)]) + cE "late" ((laidP rm sh p false).2 ++ [((if (wy.filter fun e => decide (e.1 ≠ p)).length = wy.length then "miss" else "late" : Str), p)]) = _
    rcases filter_key (p := p) nw with ⟨_, h⟩ | ⟨_, h⟩
    · rw [if_pos h]
      refine ⟨⟨?_, ?_⟩, ?_⟩
      · rw [cE_app, cE_app, cE_app, cE_app, a.h, a.f, a.l, a.m, cE_one, cE_one, cE_one, cE_one, if_neg (by decide), if_neg (by decide), if_neg (by decide), if_pos rfl]
      · rw [cE_app, a.s, cE_one, if_neg (by decide)]
      · rw [cE_app, cE_app, cE_app, a.f, a.l, cE_one, cE_one, cE_one, if_neg (by decide), if_neg (by decide), if_neg (by decide)]
        omega
    · rw [if_neg (by omega)]
      refine ⟨⟨?_, ?_⟩, ?_⟩
      · rw [cE_app, cE_app, cE_app, cE_app, a.h, a.f, a.l, a.m, cE_one, cE_one, cE_one, cE_one, if_neg (by decide), if_neg (by decide), if_pos rfl, if_neg (by decide)]
      · rw [cE_app, a.s, cE_one, if_neg (by decide)]
      · rw [cE_app, cE_app, cE_app, a.f, a.l, cE_one, cE_one, cE_one, if_neg (by decide), if_neg (by decide), if_pos rfl]
        omega
theorem start_b {pl lt ms : Int} {sh : Shelf} : ∀ (gs : List Int) (wy : Way) (evs : Evs),
    (gs.foldl (startS pl lt ms sh) (wy, evs)).1.length + cE "start" evs = wy.length + cE "start" (gs.foldl (startS pl lt ms sh) (wy, evs)).2 ∧ ∀ x : Str, x ≠ "start" → cE x (gs.foldl (startS pl lt ms sh) (wy, evs)).2 = cE x evs
  | [], wy, evs => ⟨rfl, fun _ _ => rfl⟩
  | g :: gs, wy, evs => by
    rw [List.foldl_cons]
    by_cases c : (0 ≤ g ∧ g < pl) ∧ g ∉ sh.map (·.1) ++ wy.map (·.1) ∧ ((wy.length : Nat) : Int) < ms
    · have e : startS pl lt ms sh (wy, evs) g = (wy ++ [(g, lt)], evs ++ [(("start" : Str), g)]) := if_pos c
      rw [e]
      obtain ⟨i1, i2⟩ := start_b (pl := pl) (lt := lt) (ms := ms) (sh := sh) gs (wy ++ [(g, lt)]) (evs ++ [(("start" : Str), g)])
      refine ⟨?_, fun x hx => ?_⟩
      · rw [cE_app, cE_one, if_pos rfl, List.length_append] at i1
        have i1 : _ = wy.length + 1 + _ := i1
        omega
      · rw [i2 x hx, cE_app, cE_one, if_neg (Ne.symm hx)]
        rfl
    · have e : startS pl lt ms sh (wy, evs) g = (wy, evs) := if_neg c
      rw [e]
      exact start_b gs wy evs
/-- a turn -/
theorem gone_b {pl rm lt ms : Int} {g : G} {s : RSt} {p : Int} (h1 : 1 ≤ rm) (I : InvS pl rm ms s.1 s.2.1) :
    cE "hit" (goneP pl rm lt ms g s p).2 + cE "first" (goneP pl rm lt ms g s p).2 + cE "late" (goneP pl rm lt ms g s p).2 + cE "miss" (goneP pl rm lt ms g s p).2 = 1 ∧
    idleN (goneP pl rm lt ms g s p).1 + cE "waste" (goneP pl rm lt ms g s p).2 + cE "first" (goneP pl rm lt ms g s p).2 + cE "late" (goneP pl rm lt ms g s p).2 = idleN s + cE "start" (goneP pl rm lt ms g s p).2 := by
  obtain ⟨sh, wy, kn⟩ := s
  obtain ⟨c1, _, _, _, _⟩ := come_inv (A := (· ∈ ks sh)) h1 wy sh [] [] I.nd I.rg I.l1 (fun q => Iff.rfl)
  obtain ⟨m1, m2⟩ := come_b rm wy sh [] [] ⟨rfl, rfl, rfl, rfl, rfl⟩
  rw [List.nodup_append] at c1
  obtain ⟨a1, a2⟩ := asked_b (rm := rm) (p := p) c1.1 c1.2.1
  unfold goneP comeP
  show cE "hit" ((wy.foldl (comeS rm) (sh, [], [])).2.2 ++ (askedP rm (wy.foldl (comeS rm) (sh, [], [])).1 (wy.foldl (comeS rm) (sh, [], [])).2.1 p).2.2 ++ _) + cE "first" (_ ++ _ ++ _) + cE "late" (_ ++ _ ++ _) + cE "miss" (_ ++ _ ++ _) = 1 ∧ fN (askedP rm (wy.foldl (comeS rm) (sh, [], [])).1 (wy.foldl (comeS rm) (sh, [], [])).2.1 p).1 + (startedP pl lt ms _ _ _).1.length + cE "waste" (_ ++ _ ++ _) + cE "first" (_ ++ _ ++ _) + cE "late" (_ ++ _ ++ _) = fN sh + wy.length + cE "start" (_ ++ _ ++ _)
  generalize wy.foldl (comeS rm) (sh, [], []) = c at m1 m2 a1 a2
  generalize askedP rm c.1 c.2.1 p = a at a1 a2
  obtain ⟨b1, b2⟩ := start_b (pl := pl) (lt := lt) (ms := ms) (sh := a.1) (stepG g kn p).2 a.2.1 []
  have b1 : (startedP pl lt ms a.1 a.2.1 (stepG g kn p).2).1.length + 0 = a.2.1.length + cE "start" (startedP pl lt ms a.1 a.2.1 (stepG g kn p).2).2 := b1
  have b2 : ∀ x : Str, x ≠ "start" → cE x (startedP pl lt ms a.1 a.2.1 (stepG g kn p).2).2 = 0 := b2
  generalize startedP pl lt ms a.1 a.2.1 (stepG g kn p).2 = z at b1 b2
  have z1 := b2 "hit" (by decide)
  have z2 := b2 "first" (by decide)
  have z3 := b2 "late" (by decide)
  have z4 := b2 "miss" (by decide)
  have z5 := b2 "waste" (by decide)
  have an := a1.n
  have as := a1.s
  have m2 : fN c.1 + c.2.1.length + cE "waste" c.2.2 = fN sh + 0 + wy.length + 0 := m2
  simp only [cE_app, m1.h, m1.f, m1.l, m1.m, m1.s, z1, z2, z3, z4, z5, as]
  constructor
  · omega
  · omega
structure Bal (n : Nat) (s : RunS) : Prop where
  a : cR "hit" s.rows + cR "first" s.rows + cR "late" s.rows + cR "miss" s.rows = n
  b : idleN s.st + cR "waste" s.rows + cR "first" s.rows + cR "late" s.rows = cR "start" s.rows
theorem doD_rows (d : Deed) (s : RunS) : (doD d s).rows = s.rows ∧ (doD d s).st = s.st := by
  unfold doD
  split <;> exact ⟨rfl, rfl⟩
theorem deed_bal {c : Cfg} (ok : c.Ok) {n m : Nat} {s : RunS} {t : Int} {d : Deed} (I : InvD c n s) (hd : Deed.Good c.pl d) (B : Bal m s) : Bal (m + 1) (deedS c t d s) := by
  obtain ⟨g1, g2⟩ := gone_b (lt := c.lt) (g := c.g) (s := s.st) (p := d.1) ok.r1 I.iv
  have g1 : cE "hit" (goC c s.st d.1).2 + cE "first" (goC c s.st d.1).2 + cE "late" (goC c s.st d.1).2 + cE "miss" (goC c s.st d.1).2 = 1 := g1
  have g2 : idleN (goC c s.st d.1).1 + cE "waste" (goC c s.st d.1).2 + cE "first" (goC c s.st d.1).2 + cE "late" (goC c s.st d.1).2 = idleN s.st + cE "start" (goC c s.st d.1).2 := g2
  obtain ⟨_, g4, _⟩ := gone_inv (lt := c.lt) (g := c.g) (s := s.st) ok.r1 I.iv (Deed.pl hd)
  obtain ⟨_, _, _, _, _, e6⟩ := evs_run (turn := t) (s := { s with st := (goC c s.st d.1).1 }) (es := (goC c s.st d.1).2) I.ke g4
  have er := evs_rowsE t (goC c s.st d.1).2 { s with st := (goC c s.st d.1).1 }
  have er : ((goC c s.st d.1).2.foldl (evS t) { s with st := (goC c s.st d.1).1 }).rows = s.rows ++ rowsE t (goC c s.st d.1).2 := er
  have e6 : ((goC c s.st d.1).2.foldl (evS t) { s with st := (goC c s.st d.1).1 }).st = (goC c s.st d.1).1 := e6
  unfold deedS
  obtain ⟨d1, d2⟩ := doD_rows d ((goC c s.st d.1).2.foldl (evS t) { s with st := (goC c s.st d.1).1 })
  have a := B.a
  have b := B.b
  refine ⟨?_, ?_⟩
  · rw [d1, er, cR_app, cR_app, cR_app, cR_app, cR_rows, cR_rows, cR_rows, cR_rows]
    omega
  · rw [d1, d2, e6, er, cR_app, cR_app, cR_app, cR_app, cR_rows, cR_rows, cR_rows, cR_rows]
    omega
theorem runTo_bal {s : Stg} {g : G} (hs : s.Good) (hg : good 3 g = true) {ds : List Deed} (hd : ∀ d ∈ ds, Deed.Good ((s.mem.length : Nat) : Int) d) : ∀ i, i ≤ ds.length → Bal i (runTo s g ds i)
  | 0, _ => ⟨rfl, rfl⟩
  | i + 1, hi => by
    have ih := runTo_bal hs hg hd i (by omega)
    have iv := runTo_inv hs hg hd i (by omega)
    unfold runTo
    rw [List.getElem?_eq_getElem (show i < ds.length by omega)]
    exact deed_bal (cfg_ok hs hg) iv (hd _ (List.getElem_mem (by omega))) ih
/-! ### answers and memory are those of memory alone -/
theorem lk_none {k : Int} : ∀ {l : List (Int × Int)}, k ∉ ks l → l.lookup k = none
  | [], _ => rfl
  | (a, b) :: r, h => by
    have h1 : k ≠ a := fun z => h (z ▸ List.mem_cons_self ..)
    have : (k == a) = false := beq_eq_false_iff_ne.mpr h1
    rw [List.lookup_cons, this]
    exact lk_none fun z => h (List.mem_cons_of_mem _ z)
theorem lk_map {k v q : Int} : ∀ {l : List (Int × Int)}, k ∈ ks l → (l.map fun e => if e.1 = k then (e.1, v) else e).lookup q = if q = k then some v else l.lookup q
  | [], h => nomatch h
  | (x, y) :: r, h => by
    rw [List.map_cons]
    by_cases d : x = k
    · subst d
      rw [if_pos rfl]
      by_cases e : q = x
      · subst e; simp [List.lookup]
      · have z : (q == x) = false := beq_eq_false_iff_ne.mpr e
        rw [List.lookup_cons, z, if_neg e, List.lookup_cons, z]
        by_cases c2 : x ∈ ks r
        · have := lk_map (v := v) (q := q) c2
          rw [if_neg e] at this
          exact this
        · have : r.map (fun e => if e.1 = x then (e.1, v) else e) = r := by
            refine (List.map_congr_left fun e he => ?_).trans (List.map_id r)
            rw [if_neg]
            · rfl
            · intro z
              exact c2 (List.mem_map.mpr ⟨e, he, z⟩)
          rw [this]
    · rw [if_neg d]
      have c2 : k ∈ ks r := by
        rcases List.mem_cons.mp h with h | h
        · exact absurd h.symm d
        · exact h
      have := lk_map (v := v) (q := q) c2
      by_cases e : q = x
      · subst e
        rw [if_neg d]
        simp [List.lookup]
      · have h : (q == x) = false := beq_eq_false_iff_ne.mpr e
        rw [List.lookup_cons, h, List.lookup_cons, h]
        exact this
theorem lk_put {l : List (Int × Int)} {k v q : Int} : (putI l k v).lookup q = if q = k then some v else l.lookup q := by
  unfold putI
  by_cases c : k ∈ ks l
  · obtain ⟨x, hx, ex⟩ := List.mem_map.mp c
    rw [if_pos (List.any_eq_true.mpr ⟨x, hx, decide_eq_true ex⟩)]
    exact lk_map c
  · rw [if_neg (fun z => by
      obtain ⟨x, hx, ex⟩ := List.any_eq_true.mp z
      exact c (List.mem_map.mpr ⟨x, hx, of_decide_eq_true ex⟩))]
    by_cases e : q = k
    · subst e
      rw [if_pos rfl, List.lookup_append, lk_none c]
      simp [List.lookup]
    · rw [if_neg e, List.lookup_append]
      have h : (q == k) = false := beq_eq_false_iff_ne.mpr e
      cases f : l.lookup q with
      | none => simp [List.lookup, h]
      | some v => rfl
theorem lk_drop {l : List (Int × Int)} {k q : Int} : (l.filter fun e => decide (e.1 ≠ k)).lookup q = if q = k then none else l.lookup q := by
  induction l with
  | nil => simp [List.lookup]
  | cons a r ih =>
    obtain ⟨x, y⟩ := a
    rw [List.filter_cons]
    by_cases c : x = k
    · subst c
      rw [if_neg (by simp), ih]
      by_cases d : q = x
      · subst d; simp
      · have : (q == x) = false := beq_eq_false_iff_ne.mpr d
        rw [if_neg d, if_neg d, List.lookup_cons, this]
    · rw [if_pos (by simp [c]), List.lookup_cons, List.lookup_cons]
      by_cases d : q = x
      · subst d
        simp [c]
      · have : (q == x) = false := beq_eq_false_iff_ne.mpr d
        rw [this]
        exact ih
/-- what lies there is memory's -/
def LieM (cells : List Int) (lies : List (Int × Int)) : Prop := ∀ q v, lies.lookup q = some v → 0 ≤ q ∧ v = cells.getD q.toNat 0
theorem evs_lie {pl : Int} {B : Int → Prop} {turn : Int} : ∀ {es : Evs} {A : Int → Prop} {s : RunS}, Ch pl A es B → LieM s.cells s.lies → LieM s.cells (es.foldl (evS turn) s).lies
  | [], _, _, _, h => h
  | (w, p) :: es, A, s, hc, h => by
    obtain ⟨hp, hc⟩ := hc
    have z : ∃ A', Ch pl A' es B ∧ LieM s.cells (evS turn s (w, p)).lies := by
      by_cases o : isOut w
      · rw [if_pos o] at hc
        refine ⟨_, hc.2, fun q v e => ?_⟩
        have e2 : (evS turn s (w, p)).lies = s.lies.filter (fun x => decide (x.1 ≠ p)) := if_pos o
        rw [e2, lk_drop] at e
        by_cases c : q = p
        · rw [if_pos c] at e; cases e
        · rw [if_neg c] at e
          exact h q v e
      · rw [if_neg o] at hc
        by_cases i : isIn w
        · rw [if_pos i] at hc
          refine ⟨_, hc, fun q v e => ?_⟩
          have e2 : (evS turn s (w, p)).lies = putI s.lies p (s.cells.getD p.toNat 0) := (if_neg o).trans (if_pos i)
          rw [e2, lk_put] at e
          by_cases c : q = p
          · rw [if_pos c] at e
            cases e
            rw [c]
            exact ⟨hp.1, rfl⟩
          · rw [if_neg c] at e
            exact h q v e
        · rw [if_neg i] at hc
          refine ⟨_, hc, fun q v e => ?_⟩
          have e2 : (evS turn s (w, p)).lies = s.lies := (if_neg o).trans (if_neg i)
          rw [e2] at e
          exact h q v e
    obtain ⟨A', z1, z2⟩ := z
    exact evs_lie (s := evS turn s (w, p)) z1 z2
structure Plain (n : Nat) (mem : List Int) (ds : List Deed) (s : RunS) : Prop where
  l : LieM s.cells s.lies
  a : (s.answers, s.cells) = plainP mem (ds.take n)
theorem deed_plain {c : Cfg} (ok : c.Ok) {n : Nat} {s : RunS} {t : Int} {d : Deed} {mem : List Int} {ds : List Deed} (I : InvD c n s) (hd : Deed.Good c.pl d) (ed : ds[n]? = some d) (Q : Plain n mem ds s) : Plain (n + 1) mem ds (deedS c t d s) := by
  obtain ⟨_, g2, g3⟩ := gone_inv (lt := c.lt) (g := c.g) (s := s.st) ok.r1 I.iv (Deed.pl hd)
  obtain ⟨e1, e2, e3, e4, e5, e6⟩ := evs_run (turn := t) (s := { s with st := (goC c s.st d.1).1 }) (es := (goC c s.st d.1).2) I.ke g2
  have hl := evs_lie (turn := t) (s := { s with st := (goC c s.st d.1).1 }) (es := (goC c s.st d.1).2) g2 Q.l
  have ce := I.ce
  have tk : plainP mem (ds.take (n + 1)) = plainD (plainP mem (ds.take n)) d := by
    rw [List.take_add_one, ed]
    unfold plainP
    rw [List.foldl_append]
    rfl
  unfold deedS
  generalize (goC c s.st d.1).2.foldl (evS t) { s with st := (goC c s.st d.1).1 } = u at e1 e4 e5 hl
  have e4 : u.cells = s.cells := e4
  have e5 : u.answers = s.answers := e5
  have hl2 : LieM u.cells u.lies := by rw [e4]; exact hl
  have pk : d.1 ∈ ks u.lies := (e1 _).mpr g3
  have qa : (u.answers, u.cells) = plainP mem (ds.take n) := by rw [e4, e5]; exact Q.a
  have ce : ((u.cells.length : Nat) : Int) = c.pl := by rw [e4]; exact ce
  obtain ⟨v0, ev0⟩ := look_ks pk
  obtain ⟨l0, l1⟩ := hl2 _ _ ev0
  obtain ⟨p, v⟩ := d
  cases v with
  | none =>
    refine ⟨hl2, ?_⟩
    rw [tk, ← qa]
    show (u.answers ++ [(u.lies.lookup p).getD 0], u.cells) = (u.answers ++ [u.cells.getD p.toNat 0], u.cells)
    rw [show u.lies.lookup p = some v0 from ev0, l1]
    rfl
  | some v =>
    have hp : (0 ≤ p ∧ p < c.pl) ∧ 0 ≤ v ∧ v ≤ 99 := hd
    refine ⟨fun q x e => ?_, ?_⟩
    · have e : (putI u.lies p v).lookup q = some x := e
      show 0 ≤ q ∧ x = (u.cells.set p.toNat v).getD q.toNat 0
      rw [lk_put] at e
      by_cases cq : q = p
      · rw [if_pos cq] at e
        cases e
        subst cq
        refine ⟨hp.1.1, ?_⟩
        rw [List.getD_eq_getElem?_getD, List.getElem?_set_self (by omega)]
        rfl
      · rw [if_neg cq] at e
        obtain ⟨q0, q1⟩ := hl2 q x e
        refine ⟨q0, ?_⟩
        rw [q1, List.getD_eq_getElem?_getD, List.getD_eq_getElem?_getD, List.getElem?_set_ne (by omega)]
    · rw [tk, ← qa]
      rfl
theorem runTo_plain {s : Stg} {g : G} (hs : s.Good) (hg : good 3 g = true) {ds : List Deed} (hd : ∀ d ∈ ds, Deed.Good ((s.mem.length : Nat) : Int) d) : ∀ i, i ≤ ds.length → Plain i s.mem ds (runTo s g ds i)
  | 0, _ => ⟨fun _ _ h => (nomatch h), by rw [List.take_zero]; rfl⟩
  | i + 1, hi => by
    have ih := runTo_plain hs hg hd i (by omega)
    have iv := runTo_inv hs hg hd i (by omega)
    have hi' : i < ds.length := hi
    unfold runTo
    rw [List.getElem?_eq_getElem hi']
    exact deed_plain (cfg_ok hs hg) iv (hd _ (List.getElem_mem hi')) (List.getElem?_eq_getElem hi') ih
end St

namespace St
open PySem PySem.Spec PyProof.Rows L2
/-! ### states as keys -/
def kOpt : Option Int → NestedKey
  | none => .none
  | some i => .num i
def kB (b : Bool) : NestedKey := .num (if b = true then 1 else 0)
def kKe (e : Int × List Int) : NestedKey := .tup [.num e.1, .tup (e.2.map .num)]
def kSg : Sg → NestedKey
  | .str l a b => .tup [kOpt l, .num a, .num b]
  | .prs l kn => .tup [kOpt l, .tup (kn.map kKe)]
  | .both a b => .tup [kSg a, kSg b]
def kShe (e : Int × Bool) : NestedKey := .tup [.num e.1, kB e.2]
def kWye (e : Int × Int) : NestedKey := .tup [.num e.1, .num e.2]
def kSt (s : RSt) : NestedKey := .tup [.tup (s.1.map kShe), .tup (s.2.1.map kWye), kSg s.2.2]
def kP (p : RSt × RSt) : NestedKey := .tup [kSt p.1, kSt p.2]
/-! ### they differ -/
theorem map_inj_ {α : Type} {f : α → NestedKey} (hf : ∀ a b, f a = f b → a = b) : ∀ {l m : List α}, l.map f = m.map f → l = m
  | [], [], _ => rfl
  | [], _ :: _, e => by simp at e
  | _ :: _, [], e => by simp at e
  | x :: xs, y :: ys, e => by
    rw [List.map_cons, List.map_cons] at e
    injection e with e1 e2
    rw [hf _ _ e1, map_inj_ hf e2]
theorem num_inj (a b : Int) (h : NestedKey.num a = NestedKey.num b) : a = b := by injection h
theorem tup_inj {a b : List NestedKey} (h : NestedKey.tup a = NestedKey.tup b) : a = b := by injection h
theorem kOpt_inj {a b : Option Int} (h : kOpt a = kOpt b) : a = b := by
  cases a with
  | none => cases b with
    | none => rfl
    | some j => exact nomatch (show NestedKey.none = NestedKey.num j from h)
  | some i => cases b with
    | none => exact nomatch (show NestedKey.num i = NestedKey.none from h)
    | some j => rw [num_inj i j h]
theorem kKe_inj (a b : Int × List Int) (h : kKe a = kKe b) : a = b := by
  have h := tup_inj h
  injection h with h1 h2
  injection h2 with h2 _
  exact Prod.ext (num_inj _ _ h1) (map_inj_ num_inj (tup_inj h2))
theorem kB_inj (a b : Bool) (h : kB a = kB b) : a = b := by
  have h := num_inj _ _ h
  cases a <;> cases b <;> first | rfl | exact absurd h (by decide)
theorem kShe_inj (a b : Int × Bool) (h : kShe a = kShe b) : a = b := by
  have h := tup_inj h
  injection h with h1 h2
  injection h2 with h2 _
  exact Prod.ext (num_inj _ _ h1) (kB_inj _ _ h2)
theorem kWye_inj (a b : Int × Int) (h : kWye a = kWye b) : a = b := by
  have h := tup_inj h
  injection h with h1 h2
  injection h2 with h2 _
  exact Prod.ext (num_inj _ _ h1) (num_inj _ _ h2)
theorem kOpt_tup {o : Option Int} {ks : List NestedKey} (h : kOpt o = .tup ks) : False := by
  cases o with
  | none => exact nomatch (show NestedKey.none = NestedKey.tup ks from h)
  | some i => exact nomatch (show NestedKey.num i = NestedKey.tup ks from h)
theorem kSg_tup : ∀ s : Sg, ∃ ks, kSg s = .tup ks
  | .str _ _ _ => ⟨_, rfl⟩
  | .prs _ _ => ⟨_, rfl⟩
  | .both _ _ => ⟨_, rfl⟩
theorem kSg_inj : ∀ {s t : Sg}, kSg s = kSg t → s = t
  | .str l a b, .str l' a' b', h => by
    have h := tup_inj h
    injection h with h1 h2
    injection h2 with h2 h3
    injection h3 with h3 _
    rw [kOpt_inj h1, num_inj _ _ h2, num_inj _ _ h3]
  | .prs l k, .prs l' k', h => by
    have h := tup_inj h
    injection h with h1 h2
    injection h2 with h2 _
    rw [kOpt_inj h1, map_inj_ kKe_inj (tup_inj h2)]
  | .both a b, .both a' b', h => by
    have h := tup_inj h
    injection h with h1 h2
    injection h2 with h2 _
    rw [kSg_inj h1, kSg_inj h2]
  | .str _ _ _, .prs _ _, h => by
    have h := congrArg List.length (tup_inj h)
    exact absurd (show (3 : Nat) = 2 from h) (by decide)
  | .prs _ _, .str _ _ _, h => by
    have h := congrArg List.length (tup_inj h)
    exact absurd (show (2 : Nat) = 3 from h) (by decide)
  | .str _ _ _, .both _ _, h => by
    have h := congrArg List.length (tup_inj h)
    exact absurd (show (3 : Nat) = 2 from h) (by decide)
  | .both _ _, .str _ _ _, h => by
    have h := congrArg List.length (tup_inj h)
    exact absurd (show (2 : Nat) = 3 from h) (by decide)
  | .prs _ _, .both a _, h => by
    have h := tup_inj h
    injection h with h1 _
    obtain ⟨ks, e⟩ := kSg_tup a
    exact (kOpt_tup (h1.trans e)).elim
  | .both a _, .prs _ _, h => by
    have h := tup_inj h
    injection h with h1 _
    obtain ⟨ks, e⟩ := kSg_tup a
    exact (kOpt_tup (h1.symm.trans e)).elim
theorem kSt_inj {s t : RSt} (h : kSt s = kSt t) : s = t := by
  have h := tup_inj h
  injection h with h1 h2
  injection h2 with h2 h3
  injection h3 with h3 _
  exact Prod.ext (map_inj_ kShe_inj (tup_inj h1)) (Prod.ext (map_inj_ kWye_inj (tup_inj h2)) (kSg_inj h3))
theorem kP_inj {s t : RSt × RSt} (h : kP s = kP t) : s = t := by
  have h := tup_inj h
  injection h with h1 h2
  injection h2 with h2 _
  exact Prod.ext (kSt_inj h1) (kSt_inj h2)
/-! ### how deep they are -/
theorem depthAll_le {n : Nat} : ∀ {ks : List NestedKey}, (∀ k ∈ ks, k.depth ≤ n) → NestedKey.depthAll ks ≤ n
  | [], _ => Nat.zero_le _
  | k :: ks, h => by
    rw [NestedKey.depthAll]
    exact Nat.max_le.mpr ⟨h k List.mem_cons_self, depthAll_le fun x m => h x (List.mem_cons_of_mem _ m)⟩
theorem depth_tup {n : Nat} {ks : List NestedKey} (h : ∀ k ∈ ks, k.depth ≤ n) : (NestedKey.tup ks).depth ≤ n + 1 := by
  rw [NestedKey.depth]
  exact Nat.succ_le_succ (depthAll_le h)
theorem depth_num (i : Int) (n : Nat) : (NestedKey.num i).depth ≤ n := by rw [NestedKey.depth]; exact Nat.zero_le _
theorem depth_opt (o : Option Int) (n : Nat) : (kOpt o).depth ≤ n := by
  cases o with
  | none => show NestedKey.depth .none ≤ n; rw [NestedKey.depth]; exact Nat.zero_le _
  | some i => exact depth_num i n
theorem depth_map {α : Type} {f : α → NestedKey} {n : Nat} {l : List α} (h : ∀ a, (f a).depth ≤ n) : (NestedKey.tup (l.map f)).depth ≤ n + 1 := depth_tup fun k m => by
  obtain ⟨a, _, rfl⟩ := List.mem_map.mp m
  exact h a
theorem two_le {n : Nat} {a b : NestedKey} (ha : a.depth ≤ n) (hb : b.depth ≤ n) : (NestedKey.tup [a, b]).depth ≤ n + 1 := depth_tup fun k m => by
  rcases List.mem_cons.mp m with rfl | m
  · exact ha
  · rcases List.mem_cons.mp m with rfl | m
    · exact hb
    · exact nomatch m
theorem three_le {n : Nat} {a b c : NestedKey} (ha : a.depth ≤ n) (hb : b.depth ≤ n) (hc : c.depth ≤ n) : (NestedKey.tup [a, b, c]).depth ≤ n + 1 := depth_tup fun k m => by
  rcases List.mem_cons.mp m with rfl | m
  · exact ha
  · rcases List.mem_cons.mp m with rfl | m
    · exact hb
    · rcases List.mem_cons.mp m with rfl | m
      · exact hc
      · exact nomatch m
theorem kSg_depth : ∀ {k : Nat} {g : G} {s : Sg}, good k g = true → Fit g s → (kSg s).depth ≤ k + 4
  | _, .nil, _, h, _ => by simp [good] at h
  | _, .b1 _, _, h, _ => by simp [good] at h
  | _, .b3 _ _ _, _, h, _ => by simp [good] at h
  | 0, .both _ _, _, h, _ => by simp [good] at h
  | k + 1, .both a b, .both s t, h, f => by
    have h' : (good k a && good k b) = true := h
    rw [Bool.and_eq_true] at h'
    exact Nat.le_trans (two_le (kSg_depth h'.1 f.1) (kSg_depth h'.2 f.2)) (by omega)
  | _, .both _ _, .str _ _ _, _, f => f.elim
  | _, .both _ _, .prs _ _, _, f => f.elim
  | k, .leaf _ _, .str l a b, _, _ => Nat.le_trans (three_le (n := 0) (depth_opt l 0) (depth_num a 0) (depth_num b 0)) (by omega)
  | k, .leaf _ _, .prs l kn, _, _ => Nat.le_trans (two_le (n := 3) (depth_opt l 3) (depth_map (n := 2) fun e => two_le (n := 1) (depth_num _ _) (depth_map (n := 0) fun a => depth_num a 0))) (by omega)
  | _, .leaf _ _, .both _ _, _, f => f.elim
theorem kSt_depth {k : Nat} {g : G} {s : RSt} (h : good k g = true) (f : Fit g s.2.2) : (kSt s).depth ≤ k + 5 :=
  three_le (n := k + 4) (Nat.le_trans (depth_map (n := 1) fun e => two_le (n := 0) (depth_num _ _) (depth_num _ _)) (by omega)) (Nat.le_trans (depth_map (n := 1) fun e => two_le (n := 0) (depth_num _ _) (depth_num _ _)) (by omega)) (kSg_depth h f)
theorem kP_depth {g1 g2 : G} {s : RSt × RSt} (h1 : good 2 g1 = true) (f1 : Fit g1 s.1.2.2) (h2 : good 2 g2 = true) (f2 : Fit g2 s.2.2.2) : (kP s).depth ≤ 8 :=
  two_le (n := 7) (kSt_depth h1 f1) (kSt_depth h2 f2)
/-! ### as they stand in memory -/
section
variable {K : PySem.W.Frag} {H : Hp}
theorem kyAll_of {α : Type} {f : α → NestedKey} : ∀ {as : List Addr} {es : List α}, Paired (fun (p : Addr) (e : α) => KyN K H (f e) (.ref p)) as es → KyAll K H (es.map f) (as.map V.ref)
  | _, _, .nil => .nil
  | _, _, .cons h t => .cons h (kyAll_of t)
theorem ky_ints : ∀ (l : List Int), KyAll K H (l.map .num) (l.map V.int)
  | [] => .nil
  | i :: l => .cons (.int i) (ky_ints l)
theorem ky_opt (o : Option Int) : KyN K H (kOpt o) (optV o) := by
  cases o with
  | none => exact .non
  | some i => exact .int i
theorem ky_b (b : Bool) : KyN K H (kB b) (.bl b) := .bl b
theorem ky2 {a : Addr} {x y : V} {k l : NestedKey} (h : SqT K H a [x, y]) (h1 : KyN K H k x) (h2 : KyN K H l y) : KyN K H (.tup [k, l]) (.ref a) := .tup h (.cons h1 (.cons h2 .nil))
theorem ku_ky : ∀ {ps : List Addr} {ku : List (Int × Addr)} {kn : List (Int × List Int)}, Paired (fun (p : Addr) (e : Int × Addr) => SqT K H p [.int e.1, .ref e.2]) ps ku →
    Paired (fun (e : Int × List Int) (f : Int × Addr) => e.1 = f.1 ∧ SqT K H f.2 (e.2.map V.int)) kn ku → KyAll K H (kn.map kKe) (ps.map V.ref)
  | _, _, _, .nil, .nil => .nil
  | _, _, _, .cons p t, .cons e r => by
    obtain ⟨e1, e2⟩ := e
    rw [← e1] at p
    exact .cons (ky2 p (.int _) (.tup e2 (ky_ints _))) (ku_ky t r)
theorem IsKn.ky {kn : List (Int × List Int)} {q : Addr} (h : IsKn K H kn q) : KyN K H (.tup (kn.map kKe)) (.ref q) := by
  obtain ⟨o, ps, ku, h1, h2, h3, h4⟩ := h
  exact .tup (.inl (.inr ⟨o, h1⟩)) (ku_ky h3 h4)
theorem IsS.ky : ∀ {s : Sg} {v : V}, IsS K H s v → KyN K H (kSg s) v
  | .str l a b, _, ⟨p, e, h⟩ => by subst e; exact .tup h (.cons (ky_opt l) (.cons (.int a) (.cons (.int b) .nil)))
  | .prs l kn, _, ⟨p, q, e, h, k⟩ => by subst e; exact ky2 h (ky_opt l) k.ky
  | .both a b, _, ⟨p, x, y, e, h, ha, hb⟩ => by subst e; exact ky2 h ha.ky hb.ky
theorem IsSh.ky {a : Addr} {sh : Shelf} (h : IsSh K H a sh) : KyN K H (.tup (sh.map kShe)) (.ref a) := by
  obtain ⟨as, h, p⟩ := h
  exact .tup h (kyAll_of (Paired.mapP p fun _ e z => ky2 z (.int e.1) (.bl e.2)))
theorem IsWT.ky {a : Addr} {wy : Way} (h : IsWT K H a wy) : KyN K H (.tup (wy.map kWye)) (.ref a) := by
  obtain ⟨as, h, p⟩ := h
  exact .tup h (kyAll_of (Paired.mapP p fun _ e z => ky2 z (.int e.1) (.int e.2)))
theorem IsSt.ky {a : Addr} {s : RSt} (h : IsSt K H a s) : KyN K H (kSt s) (.ref a) := by
  obtain ⟨a1, a2, v, h, h1, h2, h3⟩ := h
  exact .tup h (.cons h1.ky (.cons h2.ky (.cons h3.ky .nil)))
/-- the tuple of two states -/
def IsPr (K : PySem.W.Frag) (H : Hp) (b : Addr) (p : RSt × RSt) : Prop := ∃ a1 a2, SqT K H b [.ref a1, .ref a2] ∧ IsSt K H a1 p.1 ∧ IsSt K H a2 p.2
theorem IsPr.ky {b : Addr} {p : RSt × RSt} (h : IsPr K H b p) : KyN K H (kP p) (.ref b) := by
  obtain ⟨a1, a2, h, h1, h2⟩ := h
  exact ky2 h h1.ky h2.ky
theorem IsPr.imm {H' : Hp} {b : Addr} {p : RSt × RSt} (h : IsPr K H b p) (e : Imm H H') : IsPr K H' b p := by
  obtain ⟨a1, a2, h, h1, h2⟩ := h
  exact ⟨a1, a2, e.t h, h1.imm e, h2.imm e⟩
end
end St

namespace St
open PySem PySem.Spec PyProof.Rows L2
/-! ### the order of a number and a row -/
abbrev ltI : List Int → List Int → Bool := PySem.W.listLt
abbrev ltP : Int × List Int → Int × List Int → Bool := PySem.W.DatumOrd.lt
theorem ltI_cons (x y : Int) (a b : List Int) : ltI (x :: a) (y :: b) = if x = y then ltI a b else decide (x < y) := rfl
theorem ltP_eq (p q : Int × List Int) : ltP p q = if p.1 = q.1 then ltI p.2 q.2 else decide (p.1 < q.1) := rfl
theorem ltI_irr : ∀ a : List Int, ltI a a = false
  | [] => rfl
  | x :: a => by rw [ltI_cons, if_pos rfl]; exact ltI_irr a
theorem ltI_tri : ∀ {a b : List Int}, ltI a b = false → ltI b a = false → a = b
  | [], [], _, _ => rfl
  | [], _ :: _, h, _ => nomatch h
  | _ :: _, [], _, h => nomatch h
  | x :: a, y :: b, h, k => by
    rw [ltI_cons] at h k
    by_cases e : x = y
    · rw [if_pos e] at h
      rw [if_pos e.symm] at k
      rw [e, ltI_tri h k]
    · rw [if_neg e] at h
      rw [if_neg (fun z => e z.symm)] at k
      have h := of_decide_eq_false h
      have k := of_decide_eq_false k
      exact absurd (by omega) e
theorem ltI_tr : ∀ {a b c : List Int}, ltI a b = true → ltI b c = true → ltI a c = true
  | [], [], _, h, _ => nomatch h
  | [], _ :: _, [], _, k => nomatch k
  | [], _ :: _, _ :: _, _, _ => rfl
  | _ :: _, [], _, h, _ => nomatch h
  | _ :: _, _ :: _, [], _, k => nomatch k
  | x :: a, y :: b, z :: c, h, k => by
    rw [ltI_cons] at h k ⊢
    by_cases e : x = y
    · rw [if_pos e] at h
      by_cases f : y = z
      · rw [if_pos f] at k
        rw [if_pos (e.trans f)]
        exact ltI_tr h k
      · rw [if_neg f] at k
        rw [if_neg (fun w => f (e.symm.trans w)), e]
        exact k
    · rw [if_neg e] at h
      have h := of_decide_eq_true h
      by_cases f : y = z
      · rw [if_neg (fun w => e (w.trans f.symm)), ← f]
        exact decide_eq_true h
      · rw [if_neg f] at k
        have k := of_decide_eq_true k
        rw [if_neg (by omega)]
        exact decide_eq_true (by omega)
theorem ltI_app : ∀ {a b : List Int} (p : Int), a.length = b.length → ltI (a ++ [p]) (b ++ [p]) = ltI a b
  | [], [], p, _ => ltI_irr [p]
  | [], _ :: _, _, h => nomatch h
  | _ :: _, [], _, h => nomatch h
  | x :: a, y :: b, p, h => by
    rw [List.cons_append, List.cons_append, ltI_cons, ltI_cons, ltI_app p (Nat.succ.inj h)]
theorem ltI_app2 : ∀ {a b c d : List Int}, a.length = b.length → ltI a b = true → ltI (a ++ c) (b ++ d) = true
  | [], [], _, _, _, h => nomatch h
  | [], _ :: _, _, _, h, _ => nomatch h
  | _ :: _, [], _, _, h, _ => nomatch h
  | x :: a, y :: b, c, d, h, k => by
    rw [ltI_cons] at k
    rw [List.cons_append, List.cons_append, ltI_cons]
    by_cases e : x = y
    · rw [if_pos e] at k ⊢
      exact ltI_app2 (Nat.succ.inj h) k
    · rw [if_neg e] at k ⊢
      exact k
theorem ltI_app3 : ∀ (a : List Int) (c d : List Int), ltI (a ++ c) (a ++ d) = ltI c d
  | [], _, _ => rfl
  | x :: a, c, d => by
    rw [List.cons_append, List.cons_append, ltI_cons, if_pos rfl]
    exact ltI_app3 a c d
theorem ltP_irr (a : Int × List Int) : ltP a a = false := by rw [ltP_eq, if_pos rfl]; exact ltI_irr _
theorem ltP_tri {a b : Int × List Int} (h : ltP a b = false) (k : ltP b a = false) : a = b := by
  rw [ltP_eq] at h k
  by_cases e : a.1 = b.1
  · rw [if_pos e] at h
    rw [if_pos e.symm] at k
    exact Prod.ext e (ltI_tri h k)
  · rw [if_neg e] at h
    rw [if_neg (fun z => e z.symm)] at k
    have h := of_decide_eq_false h
    have k := of_decide_eq_false k
    exact absurd (by omega) e
theorem ltP_tr {a b c : Int × List Int} (h : ltP a b = true) (k : ltP b c = true) : ltP a c = true := by
  rw [ltP_eq] at h k ⊢
  by_cases e : a.1 = b.1
  · rw [if_pos e] at h
    by_cases f : b.1 = c.1
    · rw [if_pos f] at k
      rw [if_pos (e.trans f)]
      exact ltI_tr h k
    · rw [if_neg f] at k
      rw [if_neg (fun w => f (e.symm.trans w)), e]
      exact k
  · rw [if_neg e] at h
    have h := of_decide_eq_true h
    by_cases f : b.1 = c.1
    · rw [if_neg (fun w => e (w.trans f.symm)), ← f]
      exact decide_eq_true h
    · rw [if_neg f] at k
      have k := of_decide_eq_true k
      rw [if_neg (by omega)]
      exact decide_eq_true (by omega)
/-- a is no greater than b -/
def leP (a b : Int × List Int) : Prop := ltP b a = false
theorem leP_refl (a : Int × List Int) : leP a a := ltP_irr a
theorem leP_lt {a b : Int × List Int} (h : ltP a b = true) : leP a b := by
  unfold leP
  cases k : ltP b a with
  | false => rfl
  | true => have := ltP_tr h k; rw [ltP_irr] at this; exact this.symm
theorem leP_tr {a b c : Int × List Int} (h : leP a b) (k : leP b c) : leP a c := by
  unfold leP at *
  cases q : ltP c a with
  | false => rfl
  | true =>
    cases r : ltP a b with
    | true => rw [ltP_tr q r] at k; exact k
    | false =>
      have e := ltP_tri r h
      subst e
      rw [q] at k
      exact k
theorem leP_anti {a b : Int × List Int} (h : leP a b) (k : leP b a) : a = b := ltP_tri k h
/-! ### levels: for each state the most, and the first row that leads there by it -/
abbrev Cand := (RSt × RSt) × Int × List Int
abbrev Lv := List Cand
def lvAt (l : Lv) (k : RSt × RSt) : Option (Int × List Int) := (l.find? fun e => decide (kP e.1 = kP k)).map (·.2)
def lvPut (l : Lv) (k : RSt × RSt) (v : Int × List Int) : Lv := if (lvAt l k).isSome then l.map (fun e => if kP e.1 = kP k then (e.1, v) else e) else l ++ [(k, v)]
/-- as it is held against another -/
def ngV (v : Int × List Int) : Int × List Int := (0 - v.1, v.2)
def leV (a b : Int × List Int) : Prop := leP (ngV a) (ngV b)
def relax (l : Lv) (c : Cand) : Lv := match lvAt l c.1 with
  | none => lvPut l c.1 c.2
  | some o => if ltP (ngV c.2) (ngV o) = true then lvPut l c.1 c.2 else l
structure Cov (l : Lv) (C : List Cand) : Prop where
  nd : (l.map (·.1)).Nodup
  sub : ∀ e ∈ l, e ∈ C
  has : ∀ c ∈ C, ∃ e ∈ l, e.1 = c.1 ∧ leV e.2 c.2
theorem lvAt_some {l : Lv} {k : RSt × RSt} {o : Int × List Int} (h : lvAt l k = some o) : (k, o) ∈ l := by
  obtain ⟨e, he, rfl⟩ := Option.map_eq_some_iff.mp h
  have h1 := List.mem_of_find?_eq_some he
  have h2 : kP e.1 = kP k := of_decide_eq_true (List.find?_some (p := fun e : Cand => decide (kP e.1 = kP k)) he)
  have h3 := kP_inj h2
  rw [← h3]
  exact h1
theorem lvAt_none {l : Lv} {k : RSt × RSt} (h : lvAt l k = none) : ∀ e ∈ l, e.1 ≠ k := fun e he z => by
  have h1 := List.find?_eq_none.mp (Option.map_eq_none_iff.mp h) e he
  exact h1 (decide_eq_true (by rw [z]))
theorem nodup_key {l : Lv} (nd : (l.map (·.1)).Nodup) : ∀ {e f : Cand}, e ∈ l → f ∈ l → e.1 = f.1 → e = f := by
  induction l with
  | nil => intro e f he; exact nomatch he
  | cons x r ih =>
    rw [List.map_cons, List.nodup_cons] at nd
    intro e f he hf h
    rcases List.mem_cons.mp he with e1 | he1
    · rcases List.mem_cons.mp hf with e2 | hf1
      · rw [e1, e2]
      · exact absurd (List.mem_map.mpr ⟨f, hf1, by rw [← h, e1]⟩) nd.1
    · rcases List.mem_cons.mp hf with e2 | hf1
      · exact absurd (List.mem_map.mpr ⟨e, he1, by rw [h, e2]⟩) nd.1
      · exact ih nd.2 he1 hf1 h
theorem relax_put {l : Lv} {C : List Cand} {c : Cand} (h : Cov l C) (hn : ∀ e ∈ l, e.1 = c.1 → leV c.2 e.2) : Cov (lvPut l c.1 c.2) (C ++ [c]) := by
  unfold lvPut
  cases q : lvAt l c.1 with
  | none =>
    have hk := lvAt_none q
    refine ⟨?_, ?_, ?_⟩
    · show ((l ++ [(c.1, c.2)]).map (·.1)).Nodup
      rw [List.map_append, List.nodup_append]
      refine ⟨h.nd, by simp, fun a ha b hb z => ?_⟩
      obtain ⟨e, he, rfl⟩ := List.mem_map.mp ha
      have hb : b = c.1 := by simpa using hb
      exact hk e he (z.trans hb)
    · intro e he
      rcases List.mem_append.mp (show e ∈ l ++ [(c.1, c.2)] from he) with he | he
      · exact List.mem_append_left _ (h.sub e he)
      · exact List.mem_append_right _ he
    · intro d hd
      rcases List.mem_append.mp hd with hd | hd
      · obtain ⟨e, he, h1, h2⟩ := h.has d hd
        exact ⟨e, List.mem_append_left _ he, h1, h2⟩
      · have hd : d = c := by simpa using hd
        subst hd
        exact ⟨d, List.mem_append_right _ (by simp), rfl, leP_refl _⟩
  | some o =>
    have hm := lvAt_some q
    have hmap : ∀ e ∈ l, kP e.1 = kP c.1 → e = (c.1, o) := fun e he z => nodup_key h.nd he hm (kP_inj z)
    refine ⟨?_, ?_, ?_⟩
    · show ((l.map (fun e => if kP e.1 = kP c.1 then (e.1, c.2) else e)).map (·.1)).Nodup
      rw [List.map_map]
      have : ((·.1) ∘ fun (e : Cand) => if kP e.1 = kP c.1 then (e.1, c.2) else e) = fun e : Cand => e.1 := by
        funext e
        show (if kP e.1 = kP c.1 then (e.1, c.2) else e).1 = e.1
        split <;> rfl
      rw [this]
      exact h.nd
    · intro e he
      obtain ⟨f, hf, rfl⟩ := List.mem_map.mp (show e ∈ l.map (fun e => if kP e.1 = kP c.1 then (e.1, c.2) else e) from he)
      by_cases z : kP f.1 = kP c.1
      · rw [if_pos z, kP_inj z]
        exact List.mem_append_right _ (by simp)
      · rw [if_neg z]
        exact List.mem_append_left _ (h.sub f hf)
    · intro d hd
      have hc : (c.1, c.2) ∈ l.map (fun e => if kP e.1 = kP c.1 then (e.1, c.2) else e) := List.mem_map.mpr ⟨(c.1, o), hm, by rw [if_pos rfl]⟩
      rcases List.mem_append.mp hd with hd | hd
      · obtain ⟨e, he, h1, h2⟩ := h.has d hd
        by_cases z : kP e.1 = kP c.1
        · exact ⟨(c.1, c.2), hc, (kP_inj z).symm.trans h1, leP_tr (hn e he (kP_inj z)) h2⟩
        · exact ⟨e, List.mem_map.mpr ⟨e, he, by rw [if_neg z]⟩, h1, h2⟩
      · have hd : d = c := by simpa using hd
        subst hd
        exact ⟨_, hc, rfl, leP_refl _⟩
theorem relax_cov {l : Lv} {C : List Cand} {c : Cand} (h : Cov l C) : Cov (relax l c) (C ++ [c]) := by
  unfold relax
  cases q : lvAt l c.1 with
  | none => exact relax_put h fun e he z => absurd z (lvAt_none q e he)
  | some o =>
    have hm := lvAt_some q
    cases r : ltP (ngV c.2) (ngV o) with
    | true =>
      show Cov (if ltP (ngV c.2) (ngV o) = true then lvPut l c.1 c.2 else l) _
      rw [if_pos r]
      refine relax_put h fun e he z => ?_
      have e1 := nodup_key h.nd he hm z
      rw [e1]
      exact leP_lt r
    | false =>
      show Cov (if ltP (ngV c.2) (ngV o) = true then lvPut l c.1 c.2 else l) _
      rw [if_neg (by rw [r]; decide)]
      refine ⟨h.nd, fun e he => List.mem_append_left _ (h.sub e he), fun d hd => ?_⟩
      rcases List.mem_append.mp hd with hd | hd
      · exact h.has d hd
      · have hd : d = c := by simpa using hd
        subst hd
        exact ⟨_, hm, rfl, r⟩
theorem relaxs_cov : ∀ (cs : List Cand) {l : Lv} {C : List Cand}, Cov l C → Cov (cs.foldl relax l) (C ++ cs)
  | [], _, _, h => by rw [List.append_nil]; exact h
  | c :: cs, l, C, h => by
    have := relaxs_cov cs (relax_cov (c := c) h)
    rw [List.append_assoc] at this
    exact this
theorem lvPut_len (l : Lv) (k : RSt × RSt) (v : Int × List Int) : (lvPut l k v).length ≤ l.length + 1 := by
  unfold lvPut
  split
  · rw [List.length_map]; omega
  · rw [List.length_append]; exact Nat.le_refl _
theorem relax_len (l : Lv) (c : Cand) : (relax l c).length ≤ l.length + 1 := by
  unfold relax
  cases lvAt l c.1 with
  | none => exact lvPut_len _ _ _
  | some o =>
    show (if ltP (ngV c.2) (ngV o) = true then lvPut l c.1 c.2 else l).length ≤ _
    split
    · exact lvPut_len _ _ _
    · omega
theorem relaxs_len : ∀ (cs : List Cand) (l : Lv), (cs.foldl relax l).length ≤ l.length + cs.length
  | [], _ => Nat.le_refl _
  | c :: cs, l => by
    have h1 := relaxs_len cs (relax l c)
    have h2 := relax_len l c
    rw [List.foldl_cons, List.length_cons]
    omega
end St

namespace St
open PySem PySem.Spec PyProof.Rows L2
/-! ### a row of places, turn by turn -/
def st0 (g : G) : RSt := ([], [], first0 g)
/-- the state, and what it cost -/
def runC (c : Cfg) (w : Wts) (ps : List Int) : RSt × Int := ps.foldl (fun a p => ((goC c a.1 p).1, a.2 + turnC (goC c a.1 p).2 w)) (st0 c.g, 0)
theorem runC_snoc (c : Cfg) (w : Wts) (ps : List Int) (p : Int) : runC c w (ps ++ [p]) = ((goC c (runC c w ps).1 p).1, (runC c w ps).2 + turnC (goC c (runC c w ps).1 p).2 w) := by
  unfold runC
  rw [List.foldl_append]
  rfl
/-- both, and by how much more the one costs -/
def fullOf (c1 c2 : Cfg) (w : Wts) (ps : List Int) : Cand := (((runC c1 w ps).1, (runC c2 w ps).1), (runC c1 w ps).2 - (runC c2 w ps).2, ps)
def candOf (c1 c2 : Cfg) (w : Wts) (e : Cand) (p : Int) : Cand :=
  (((goC c1 e.1.1 p).1, (goC c2 e.1.2 p).1), e.2.1 + (turnC (goC c1 e.1.1 p).2 w - turnC (goC c2 e.1.2 p).2 w), e.2.2 ++ [p])
theorem full_cand (c1 c2 : Cfg) (w : Wts) (ps : List Int) (p : Int) : fullOf c1 c2 w (ps ++ [p]) = candOf c1 c2 w (fullOf c1 c2 w ps) p := by
  unfold fullOf candOf
  rw [runC_snoc, runC_snoc]
  refine Prod.ext rfl (Prod.ext ?_ rfl)
  show (runC c1 w ps).2 + turnC (goC c1 (runC c1 w ps).1 p).2 w - ((runC c2 w ps).2 + turnC (goC c2 (runC c2 w ps).1 p).2 w) = ((runC c1 w ps).2 - (runC c2 w ps).2) + (turnC (goC c1 (runC c1 w ps).1 p).2 w - turnC (goC c2 (runC c2 w ps).1 p).2 w)
  omega
/-- the places, from the first one -/
def plR (n : Nat) : List Int := (List.range n).map fun (k : Nat) => (k : Int)
/-- all rows of so many places -/
def rowsP (n : Nat) : Nat → List (List Int)
  | 0 => [[]]
  | k + 1 => (rowsP n k).flatMap fun r => (plR n).map fun p => r ++ [p]
theorem mem_plR {n : Nat} {p : Int} : p ∈ plR n ↔ 0 ≤ p ∧ p < (n : Int) := by
  unfold plR
  rw [List.mem_map]
  constructor
  · rintro ⟨k, hk, rfl⟩
    have := List.mem_range.mp hk
    omega
  · rintro ⟨h1, h2⟩
    exact ⟨p.toNat, List.mem_range.mpr (by omega), by omega⟩
theorem rows_len {n : Nat} : ∀ {k : Nat} {r : List Int}, r ∈ rowsP n k → r.length = k
  | 0, r, h => by
    have h : r ∈ ([[]] : List (List Int)) := h
    have : r = [] := by simpa using h
    rw [this]; rfl
  | k + 1, r, h => by
    obtain ⟨q, hq, h⟩ := List.mem_flatMap.mp h
    obtain ⟨p, _, rfl⟩ := List.mem_map.mp h
    rw [List.length_append, rows_len hq]
    rfl
theorem rows_in {n : Nat} : ∀ {k : Nat} {r : List Int}, r ∈ rowsP n k → ∀ p ∈ r, 0 ≤ p ∧ p < (n : Int)
  | 0, r, h => by
    have h : r ∈ ([[]] : List (List Int)) := h
    have : r = [] := by simpa using h
    rw [this]
    intro p hp
    exact nomatch hp
  | k + 1, r, h => by
    obtain ⟨q, hq, h⟩ := List.mem_flatMap.mp h
    obtain ⟨p, hp, rfl⟩ := List.mem_map.mp h
    intro x hx
    rcases List.mem_append.mp hx with hx | hx
    · exact rows_in hq x hx
    · have : x = p := by simpa using hx
      rw [this]
      exact mem_plR.mp hp
theorem rows_count (n : Nat) : ∀ k, (rowsP n k).length = n ^ k
  | 0 => rfl
  | k + 1 => by
    show ((rowsP n k).flatMap fun r => (plR n).map fun p => r ++ [p]).length = n ^ (k + 1)
    have : ∀ l : List (List Int), (l.flatMap fun r => (plR n).map fun p => r ++ [p]).length = l.length * n := by
      intro l
      induction l with
      | nil => simp
      | cons a l ih =>
        rw [List.flatMap_cons, List.length_append, ih, List.length_map, List.length_cons, Nat.succ_mul]
        unfold plR
        rw [List.length_map, List.length_range]
        omega
    rw [this, rows_count n k, Nat.pow_succ]
theorem rows_sorted (n : Nat) : ∀ k, (rowsP n k).Pairwise (fun a b => ltI a b = true)
  | 0 => List.pairwise_singleton _ _
  | k + 1 => by
    show ((rowsP n k).flatMap fun r => (plR n).map fun p => r ++ [p]).Pairwise _
    rw [List.pairwise_flatMap]
    refine ⟨fun r _ => ?_, ?_⟩
    · rw [List.pairwise_map]
      unfold plR
      rw [List.pairwise_map]
      refine List.Pairwise.imp (fun {a b} h => ?_) (List.pairwise_lt_range (n := n))
      rw [ltI_app3]
      rw [ltI_cons, if_neg (by omega)]
      exact decide_eq_true (by omega)
    · refine List.Pairwise.imp_of_mem (fun {a b} ha hb h => ?_) (rows_sorted n k)
      intro x hx y hy
      obtain ⟨p, _, rfl⟩ := List.mem_map.mp hx
      obtain ⟨q, _, rfl⟩ := List.mem_map.mp hy
      exact ltI_app2 ((rows_len ha).trans (rows_len hb).symm) h
theorem plR_take {n m : Nat} (h : m < n) : (plR n).take (m + 1) = (plR n).take m ++ [0 + ((m : Nat) : Int)] := by
  have : (plR n)[m]? = some ((m : Nat) : Int) := by unfold plR; rw [List.getElem?_map, List.getElem?_range h]; rfl
  rw [List.take_add_one, this, Int.zero_add]
  rfl
/-! ### a level told by all rows -/
def candsOf (c1 c2 : Cfg) (w : Wts) (n : Nat) (l : Lv) : List Cand := l.flatMap fun e => (plR n).map (candOf c1 c2 w e)
def stepLv (c1 c2 : Cfg) (w : Wts) (n : Nat) (l : Lv) : Lv := (candsOf c1 c2 w n l).foldl relax []
def lvl (c1 c2 : Cfg) (w : Wts) (n : Nat) : Nat → Lv
  | 0 => [((st0 c1.g, st0 c2.g), 0, [])]
  | k + 1 => stepLv c1 c2 w n (lvl c1 c2 w n k)
structure Best (c1 c2 : Cfg) (w : Wts) (l : Lv) (R : List (List Int)) : Prop where
  sub : ∀ e ∈ l, ∃ ps ∈ R, e = fullOf c1 c2 w ps
  has : ∀ ps ∈ R, ∃ e ∈ l, e.1 = (fullOf c1 c2 w ps).1 ∧ leV e.2 (fullOf c1 c2 w ps).2
theorem leV_step {a b : Int × List Int} (d p : Int) (hl : a.2.length = b.2.length) (h : leV a b) : leV (a.1 + d, a.2 ++ [p]) (b.1 + d, b.2 ++ [p]) := by
  unfold leV leP ngV at h ⊢
  rw [ltP_eq] at h ⊢
  dsimp only at h ⊢
  by_cases e : (0 - b.1 : Int) = 0 - a.1
  · rw [if_pos e] at h
    rw [if_pos (by omega), ltI_app p hl.symm]
    exact h
  · rw [if_neg e] at h
    rw [if_neg (by omega)]
    have h := of_decide_eq_false h
    exact decide_eq_false (by omega)
theorem best_step {c1 c2 : Cfg} {w : Wts} {n k : Nat} {l : Lv} (h : Best c1 c2 w l (rowsP n k)) : Best c1 c2 w (stepLv c1 c2 w n l) (rowsP n (k + 1)) := by
  have cov : Cov (stepLv c1 c2 w n l) (candsOf c1 c2 w n l) := by
    have := relaxs_cov (candsOf c1 c2 w n l) (l := []) (C := []) ⟨List.nodup_nil, fun _ m => (nomatch m), fun _ m => (nomatch m)⟩
    rw [List.nil_append] at this
    exact this
  refine ⟨fun e he => ?_, fun ps hps => ?_⟩
  · obtain ⟨f, hf, he⟩ := List.mem_flatMap.mp (cov.sub e he)
    obtain ⟨p, hp, rfl⟩ := List.mem_map.mp he
    obtain ⟨ps, hps, rfl⟩ := h.sub f hf
    exact ⟨ps ++ [p], List.mem_flatMap.mpr ⟨ps, hps, List.mem_map.mpr ⟨p, hp, rfl⟩⟩, (full_cand _ _ _ _ _).symm⟩
  · obtain ⟨qs, hqs, hx⟩ := List.mem_flatMap.mp hps
    obtain ⟨p, hp, rfl⟩ := List.mem_map.mp hx
    obtain ⟨e, he, e1, e2⟩ := h.has qs hqs
    obtain ⟨ps', hps', ee⟩ := h.sub e he
    obtain ⟨f, hf, f1, f2⟩ := cov.has (candOf c1 c2 w e p) (List.mem_flatMap.mpr ⟨e, he, List.mem_map.mpr ⟨p, hp, rfl⟩⟩)
    rw [full_cand]
    refine ⟨f, hf, ?_, ?_⟩
    · rw [f1]
      show ((goC c1 e.1.1 p).1, (goC c2 e.1.2 p).1) = _
      rw [e1]
      rfl
    · refine leP_tr f2 ?_
      have l1 : e.2.2.length = (fullOf c1 c2 w qs).2.2.length := by
        rw [ee]
        show ps'.length = qs.length
        rw [rows_len hps', rows_len hqs]
      have := leV_step (turnC (goC c1 e.1.1 p).2 w - turnC (goC c2 e.1.2 p).2 w) p l1 e2
      show leV (e.2.1 + (turnC (goC c1 e.1.1 p).2 w - turnC (goC c2 e.1.2 p).2 w), e.2.2 ++ [p]) _
      refine leP_tr this ?_
      rw [e1]
      exact leP_refl _
theorem best_lvl (c1 c2 : Cfg) (w : Wts) (n : Nat) : ∀ k, Best c1 c2 w (lvl c1 c2 w n k) (rowsP n k)
  | 0 => by
    refine ⟨fun e he => ⟨[], by show ([] : List Int) ∈ [[]]; simp, ?_⟩, fun ps hps => ?_⟩
    · have : e = ((st0 c1.g, st0 c2.g), 0, []) := by simpa [lvl] using he
      rw [this]
      rfl
    · have : ps = [] := by simpa [rowsP] using hps
      rw [this]
      exact ⟨_, List.mem_singleton.mpr rfl, rfl, leP_refl _⟩
  | k + 1 => best_step (best_lvl c1 c2 w n k)
theorem cands_len (c1 c2 : Cfg) (w : Wts) (n : Nat) : ∀ l : Lv, (candsOf c1 c2 w n l).length = l.length * n
  | [] => by unfold candsOf; simp
  | a :: l => by
    have ih := cands_len c1 c2 w n l
    unfold candsOf at ih ⊢
    rw [List.flatMap_cons, List.length_append, ih, List.length_map, List.length_cons, Nat.succ_mul]
    unfold plR
    rw [List.length_map, List.length_range]
    omega
theorem lvl_len (c1 c2 : Cfg) (w : Wts) (n : Nat) : ∀ k, (lvl c1 c2 w n k).length ≤ n ^ k
  | 0 => Nat.le_refl _
  | k + 1 => by
    have h := relaxs_len (candsOf c1 c2 w n (lvl c1 c2 w n k)) []
    rw [cands_len, List.length_nil] at h
    have h2 := Nat.mul_le_mul_right n (lvl_len c1 c2 w n k)
    show (stepLv c1 c2 w n (lvl c1 c2 w n k)).length ≤ n ^ (k + 1)
    unfold stepLv
    rw [Nat.pow_succ]
    omega
/-! ### the end -/
/-- the number told at the end -/
def idleD (w : Wts) (k : RSt × RSt) : Int := (((idleN k.1 : Nat) : Int) - ((idleN k.2 : Nat) : Int)) * w.c
def endV (w : Wts) (e : Cand) : Int × List Int := (0 - (e.2.1 + idleD w e.1), e.2.2)
theorem endV_le {w : Wts} {e f : Cand} (h1 : e.1 = f.1) (h2 : leV e.2 f.2) : leP (endV w e) (endV w f) := by
  unfold leV leP ngV at h2
  unfold leP endV
  rw [h1]
  rw [ltP_eq] at h2 ⊢
  dsimp only at h2 ⊢
  by_cases q : (0 - f.2.1 : Int) = 0 - e.2.1
  · rw [if_pos q] at h2
    rw [if_pos (by omega)]
    exact h2
  · rw [if_neg q] at h2
    rw [if_neg (by omega)]
    have h := of_decide_eq_false h2
    exact decide_eq_false (by omega)
theorem minOf_le : ∀ (ts : List (Int × List Int)) (x : Int × List Int), (PySem.W.minOf x ts ∈ x :: ts) ∧ ∀ y ∈ x :: ts, leP (PySem.W.minOf x ts) y
  | [], x => ⟨List.mem_cons_self, fun y hy => by
      have : y = x := by simpa using hy
      rw [this]
      exact leP_refl x⟩
  | t :: ts, x => by
    have e : PySem.W.minOf x (t :: ts) = PySem.W.minOf (if ltP t x = true then t else x) ts := rfl
    rw [e]
    obtain ⟨h1, h2⟩ := minOf_le ts (if ltP t x = true then t else x)
    have h0 := h2 _ List.mem_cons_self
    cases q : ltP t x with
    | true =>
      rw [q, if_pos rfl] at h1 h2 h0
      rw [if_pos rfl]
      refine ⟨List.mem_cons_of_mem _ h1, fun y hy => ?_⟩
      rcases List.mem_cons.mp hy with rfl | hy'
      · exact leP_tr h0 (leP_lt q)
      · exact h2 y hy'
    | false =>
      rw [q, if_neg (by decide)] at h1 h2 h0
      rw [if_neg (by decide)]
      refine ⟨?_, fun y hy => ?_⟩
      · rcases List.mem_cons.mp h1 with z | z
        · rw [z]; exact List.mem_cons_self
        · exact List.mem_cons_of_mem _ (List.mem_cons_of_mem _ z)
      · rcases List.mem_cons.mp hy with z | hy'
        · rw [z]; exact h0
        · rcases List.mem_cons.mp hy' with z | hy2
          · rw [z]; exact leP_tr h0 q
          · exact h2 y (List.mem_cons_of_mem _ hy2)
/-- the law's own number of a row -/
def moreL (c1 c2 : Cfg) (w : Wts) (ps : List Int) : Int := (fullOf c1 c2 w ps).2.1 + idleD w (fullOf c1 c2 w ps).1
/-- the law's: the first of the greatest -/
def bestL (f : List Int → Int) (b : Option (Int × List Int)) (ps : List Int) : Option (Int × List Int) := match b with
  | none => some (f ps, ps)
  | some o => if o.1 < f ps then some (f ps, ps) else some o
theorem bestL_le (f : List Int → Int) : ∀ (R S : List (List Int)) (o : Int × List Int), (S ++ R).Pairwise (fun a b => ltI a b = true) → o.2 ∈ S → o.1 = f o.2 → (∀ ps ∈ S, leP (0 - o.1, o.2) (0 - f ps, ps)) →
    ∃ ps ∈ S ++ R, R.foldl (bestL f) (some o) = some (f ps, ps) ∧ ∀ q ∈ S ++ R, leP (0 - f ps, ps) (0 - f q, q)
  | [], S, o, _, h1, h2, h3 => ⟨o.2, by rw [List.append_nil]; exact h1, by rw [← h2]; rfl, fun q hq => by rw [List.append_nil] at hq; rw [← h2]; exact h3 q hq⟩
  | r :: R, S, o, hp, h1, h2, h3 => by
    have ea : S ++ r :: R = (S ++ [r]) ++ R := by simp
    have hp' := hp
    rw [ea] at hp'
    have hr : ∀ s ∈ S, ltI s r = true := fun s hs => (List.pairwise_append.mp hp).2.2 s hs r List.mem_cons_self
    rw [List.foldl_cons, ea]
    by_cases c : o.1 < f r
    · have e : bestL f (some o) r = some (f r, r) := if_pos c
      rw [e]
      refine bestL_le f R (S ++ [r]) (f r, r) hp' (by simp) rfl fun ps hps => ?_
      rcases List.mem_append.mp hps with z | z
      · refine leP_tr (leP_lt ?_) (h3 ps z)
        rw [ltP_eq]
        dsimp only
        rw [if_neg (by omega)]
        exact decide_eq_true (by omega)
      · have : ps = r := by simpa using z
        rw [this]
        exact leP_refl _
    · have e : bestL f (some o) r = some o := if_neg c
      rw [e]
      refine bestL_le f R (S ++ [r]) o hp' (List.mem_append_left _ h1) h2 fun ps hps => ?_
      rcases List.mem_append.mp hps with z | z
      · exact h3 ps z
      · have : ps = r := by simpa using z
        rw [this]
        refine leP_lt ?_
        rw [ltP_eq]
        dsimp only
        by_cases d : (0 - o.1 : Int) = 0 - f r
        · rw [if_pos d]
          exact hr _ h1
        · rw [if_neg d]
          exact decide_eq_true (by omega)
/-- the program's and the law's are one -/
theorem worst_eq (c1 c2 : Cfg) (w : Wts) (n k : Nat) (x : Int × List Int) (ts : List (Int × List Int)) (hx : (lvl c1 c2 w n k).map (endV w) = x :: ts) :
    (rowsP n k).foldl (bestL (moreL c1 c2 w)) none = some (0 - (PySem.W.minOf x ts).1, (PySem.W.minOf x ts).2) := by
  have B := best_lvl c1 c2 w n k
  obtain ⟨m1, m2⟩ := minOf_le ts x
  rw [← hx] at m1 m2
  obtain ⟨e, he, em⟩ := List.mem_map.mp m1
  obtain ⟨ps1, hps1, ee⟩ := B.sub e he
  have hle : ∀ ps ∈ rowsP n k, leP (PySem.W.minOf x ts) (0 - moreL c1 c2 w ps, ps) := fun ps hps => by
    obtain ⟨f, hf, f1, f2⟩ := B.has ps hps
    exact leP_tr (m2 _ (List.mem_map.mpr ⟨f, hf, rfl⟩)) (endV_le f1 f2)
  have em' : PySem.W.minOf x ts = (0 - moreL c1 c2 w ps1, ps1) := by rw [← em, ee]; rfl
  have hs := rows_sorted n k
  cases hR : rowsP n k with
  | nil => rw [hR] at hps1; exact nomatch hps1
  | cons r R =>
    rw [hR] at hs
    obtain ⟨ps, hps, h1, h2⟩ := bestL_le (moreL c1 c2 w) R [r] (moreL c1 c2 w r, r) hs (by simp) rfl (fun q hq => by
      have : q = r := by simpa using hq
      rw [this]
      exact leP_refl _)
    rw [List.foldl_cons]
    show R.foldl (bestL (moreL c1 c2 w)) (some (moreL c1 c2 w r, r)) = _
    rw [h1]
    have hps' : ps ∈ rowsP n k := by rw [hR]; exact hps
    have a1 := hle ps hps'
    have a2 : leP (0 - moreL c1 c2 w ps, ps) (PySem.W.minOf x ts) := by
      rw [em']
      exact h2 ps1 (by rw [hR] at hps1; exact hps1)
    have := leP_anti a1 a2
    rw [this]
    show some (moreL c1 c2 w ps, ps) = some (0 - (0 - moreL c1 c2 w ps), ps)
    rw [show 0 - (0 - moreL c1 c2 w ps) = moreL c1 c2 w ps by omega]
end St

namespace St
open PySem PySem.Spec PyProof.Rows L2
/-! ### what a row costs, by the run and turn by turn -/
theorem evs_stW (t : Int) : ∀ (es : Evs) (s : RunS), (es.foldl (evS t) s).st = s.st
  | [], _ => rfl
  | e :: es, s => by
    rw [List.foldl_cons, evs_stW t es]
    unfold evS
    rfl
theorem deed_rs (c : Cfg) (t : Int) (d : Deed) (s : RunS) : (deedS c t d s).st = (goC c s.st d.1).1 ∧ (deedS c t d s).rows = s.rows ++ rowsE t (goC c s.st d.1).2 := by
  unfold deedS
  obtain ⟨d1, d2⟩ := doD_rows d ((goC c s.st d.1).2.foldl (evS t) { s with st := (goC c s.st d.1).1 })
  rw [d1, d2, evs_stW, evs_rowsE]
  exact ⟨rfl, rfl⟩
theorem cntW_cE (x : Str) : ∀ es : Evs, cntW x es = cE x es
  | [] => rfl
  | e :: es => by
    have ih := cntW_cE x es
    unfold cntW cE at ih ⊢
    rw [List.map_cons, List.count_cons, ih]
    by_cases q : e.1 = x
    · rw [List.filter_cons, if_pos (decide_eq_true q), List.length_cons, if_pos (by rw [q]; exact beq_self_eq_true x)]
    · rw [if_neg (fun z => q (eq_of_beq z)), List.filter_cons, if_neg (by rw [decide_eq_false q]; decide)]
      rfl
def wR (rs : List (Int × Str × Int)) (w : Wts) : Int := ((cR "late" rs : Nat) : Int) * w.a + ((cR "miss" rs : Nat) : Int) * w.b + ((cR "waste" rs : Nat) : Int) * w.c
theorem wR_app (a : List (Int × Str × Int)) (t : Int) (es : Evs) (w : Wts) : wR (a ++ rowsE t es) w = wR a w + turnC es w := by
  unfold wR turnC
  rw [cR_app, cR_app, cR_app, cR_rows, cR_rows, cR_rows, cntW_cE, cntW_cE, cntW_cE]
  push_cast
  rw [Int.add_mul, Int.add_mul, Int.add_mul]
  omega
def rdD (ps : List Int) : List Deed := ps.map fun p => (p, none)
theorem rdD_len (ps : List Int) : (rdD ps).length = ps.length := by unfold rdD; rw [List.length_map]
theorem rdD_good {n : Int} {ps : List Int} (h : ∀ p ∈ ps, 0 ≤ p ∧ p < n) : ∀ d ∈ rdD ps, Deed.Good n d := fun d hd => by
  obtain ⟨p, hp, rfl⟩ := List.mem_map.mp hd
  exact h p hp
theorem runTo_runC (s : Stg) (g : G) (w : Wts) (ps : List Int) : ∀ i, i ≤ ps.length → (runTo s g (rdD ps) i).st = (runC (cfgOf s g) w (ps.take i)).1 ∧ wR (runTo s g (rdD ps) i).rows w = (runC (cfgOf s g) w (ps.take i)).2
  | 0, _ => ⟨rfl, by show wR [] w = 0; unfold wR; simp [cR]⟩
  | i + 1, hi => by
    obtain ⟨h1, h2⟩ := runTo_runC s g w ps i (by omega)
    have hl : i < ps.length := by omega
    have e : (rdD ps)[i]? = some (ps[i], none) := by unfold rdD; rw [List.getElem?_map, List.getElem?_eq_getElem hl]; rfl
    have et : ps.take (i + 1) = ps.take i ++ [ps[i]] := by rw [List.take_add_one, List.getElem?_eq_getElem hl]; rfl
    rw [et, runC_snoc]
    unfold runTo
    rw [e]
    obtain ⟨d1, d2⟩ := deed_rs (cfgOf s g) ((i : Nat) : Int) (ps[i], none) (runTo s g (rdD ps) i)
    refine ⟨?_, ?_⟩
    · show (deedS _ _ _ _).st = _
      rw [d1, h1]
    · show wR (deedS _ _ _ _).rows w = _
      rw [d2, wR_app, h2, h1]
theorem costOf_runC (s : Stg) (g : G) (w : Wts) (ps : List Int) : costOf s (rdD ps) w g = (runC (cfgOf s g) w ps).2 + ((idleN (runC (cfgOf s g) w ps).1 : Nat) : Int) * w.c := by
  obtain ⟨h1, h2⟩ := runTo_runC s g w ps ps.length (Nat.le_refl _)
  rw [List.take_length] at h1 h2
  unfold costOf
  rw [rdD_len, ← h1, ← h2]
  unfold weigh countsP
  show ((cntP ["late"] _ : Nat) : Int) * w.a + ((cntP ["miss"] _ : Nat) : Int) * w.b + (((cntP ["waste"] _ : Nat) : Int) + ((idleN _ : Nat) : Int)) * w.c = _
  rw [cnt1, cnt1, cnt1, Int.add_mul]
  unfold wR
  omega
theorem moreL_cost (s : Stg) (g1 g2 : G) (w : Wts) (ps : List Int) : moreL (cfgOf s g1) (cfgOf s g2) w ps = costOf s (rdD ps) w g1 - costOf s (rdD ps) w g2 := by
  rw [costOf_runC, costOf_runC]
  unfold moreL idleD fullOf
  dsimp only
  rw [Int.sub_mul]
  omega
/-- what holds of a state behind so many turns -/
structure OkR (s : Stg) (g : G) (n : Nat) (r : RSt) : Prop where
  iv : InvS ((s.mem.length : Nat) : Int) s.rm s.ms r.1 r.2.1
  ft : Fit g r.2.2
  ok : okS n r.2.2
theorem runC_ok {s : Stg} {g : G} (w : Wts) (hs : s.Good) (hg : good 3 g = true) {ps : List Int} (hp : ∀ p ∈ ps, 0 ≤ p ∧ p < ((s.mem.length : Nat) : Int)) : OkR s g ps.length (runC (cfgOf s g) w ps).1 := by
  have iv := runTo_inv hs hg (rdD_good hp) (rdD ps).length (Nat.le_refl _)
  obtain ⟨h1, _⟩ := runTo_runC s g w ps ps.length (Nat.le_refl _)
  rw [List.take_length] at h1
  rw [rdD_len] at iv
  rw [← h1]
  exact ⟨iv.iv, iv.ft, iv.ok⟩
theorem turnC_le {es : Evs} {w : Wts} (h : w.Good) (hl : es.length ≤ 34) : 0 ≤ turnC es w ∧ turnC es w ≤ 1000 := by
  obtain ⟨⟨a0, a9⟩, ⟨b0, b9⟩, c0, c9⟩ := h
  have c1 := cntW_le "late" es
  have c2 := cntW_le "miss" es
  have c3 := cntW_le "waste" es
  unfold turnC
  have m1 : 0 ≤ ((cntW "late" es : Nat) : Int) * w.a := Int.mul_nonneg (by omega) a0
  have m2 : 0 ≤ ((cntW "miss" es : Nat) : Int) * w.b := Int.mul_nonneg (by omega) b0
  have m3 : 0 ≤ ((cntW "waste" es : Nat) : Int) * w.c := Int.mul_nonneg (by omega) c0
  have n1 : ((cntW "late" es : Nat) : Int) * w.a ≤ 34 * 9 := Int.mul_le_mul (by omega) a9 a0 (by omega)
  have n2 : ((cntW "miss" es : Nat) : Int) * w.b ≤ 34 * 9 := Int.mul_le_mul (by omega) b9 b0 (by omega)
  have n3 : ((cntW "waste" es : Nat) : Int) * w.c ≤ 34 * 9 := Int.mul_le_mul (by omega) c9 c0 (by omega)
  omega
/-- what worst tells -/
def worstP (s : Stg) (g1 g2 : G) (w : Wts) (n k : Nat) : Int × List Int := ((rowsP n k).foldl (bestL (moreL (cfgOf s g1) (cfgOf s g2) w)) none).getD (0, [])
theorem worst_len (s : Stg) (g1 g2 : G) (w : Wts) {n k : Nat} (n1 : 1 ≤ n) : (worstP s g1 g2 w n k).2.length ≤ k := by
  have key : ∀ (R : List (List Int)) (o : Option (Int × List Int)), (∀ r ∈ R, r.length = k) → (∀ p, o = some p → p.2.length = k) → ∀ p, R.foldl (bestL (moreL (cfgOf s g1) (cfgOf s g2) w)) o = some p → p.2.length = k := fun R => by
    induction R with
    | nil => intro o _ h; exact h
    | cons r R ih =>
      intro o hR ho
      refine ih _ (fun q hq => hR q (List.mem_cons_of_mem _ hq)) fun p hp => ?_
      have hr := hR r List.mem_cons_self
      cases o with
      | none => cases hp; exact hr
      | some o =>
        have hp : (if o.1 < _ then some (_, r) else some o) = some p := hp
        split at hp
        · cases hp; exact hr
        · exact ho p hp
  unfold worstP
  cases h : (rowsP n k).foldl (bestL (moreL (cfgOf s g1) (cfgOf s g2) w)) none with
  | none => exact Nat.zero_le _
  | some p => exact Nat.le_of_eq (key _ none (fun r hr => rows_len hr) (fun p hp => nomatch hp) p h)
theorem freshS {H H' : Hp} {p : Addr} (s : Same H H') (h : H' p = none) : H p = none := by
  cases e : H p with
  | none => rfl
  | some o => rw [s _ _ e] at h; cases h
end St

namespace St
open PySem PySem.Spec PyProof.Rows L2
abbrev s_both_behind : Stmt := topS 53
abbrev N_both_behind : List Str := ["house", "guessers", "states", "place", "weights", "found", "costs", "guesser", "state", "behind", "events"]
abbrev p_both_behind : List Str := ["house", "guessers", "states", "place", "weights"]
theorem sc_both_behind : FnScope N_both_behind p_both_behind (defScope s_both_behind) := ⟨rfl, rfl, rfl, by decide +kernel, rfl, by decide +kernel, by decide +kernel⟩
theorem walk_zipT {K : PySem.W.Frag} {a b : Addr} {xs ys : List V} {n : Nat} (hn : n = min xs.length ys.length) : Walk (RZ.ItzT K a b) n (fun H => SqT K H a xs ∧ SqT K H b ys) (YPair (fun i => xs[i]?) (fun i => ys[i]?)) := by
  subst hn
  refine ⟨fun i _ hi q => ?_, fun _ q => ⟨xs, ys, q.1, q.2, by omega⟩, fun i H v H' _ q y => ?_⟩
  · have h1 : i < xs.length := by omega
    have h2 : i < ys.length := by omega
    exact ⟨xs, ys, xs[i], ys[i], q.1, q.2, by simp [h1], by simp [h2]⟩
  · obtain ⟨T, x, z, h1, h2, h3, h4, h5⟩ := y
    exact ⟨T, x, z, h1, h2, h3, h4 xs q.1, h5 ys q.2⟩
section
variable {P : Program} {w : World} {K : PySem.W.Frag} {mg : Str → Option Value} {base : Heap} {f C f1 f2 f3 f4 f5 f6 f7 f8 f9 : Addr} {fd fd1 fd2 fd3 fd4 fd5 fd6 fd7 fd8 fd9 : FuncData}
def spBB (K : PySem.W.Frag) (C : Addr) : Sp := fun vs H Q _ => ∃ (h gp sp wp : Addr) (v1 v2 : V) (s : Stg) (g1 g2 : G) (p : Int) (r : RSt × RSt) (N : Nat) (wt : Wts), vs = [.ref h, .ref gp, .ref sp, .int p, .ref wp] ∧ IsH C H h ((s.mem.length : Nat) : Int) s.rm s.lt s.ms ∧ s.Good ∧
  SqT K H gp [v1, v2] ∧ IsG K H g1 v1 ∧ good 3 g1 = true ∧ IsG K H g2 v2 ∧ good 3 g2 = true ∧ IsPr K H sp r ∧ OkR s g1 N r.1 ∧ OkR s g2 N r.2 ∧ N ≤ 10000 ∧ IsW K H wp wt ∧ wt.Good ∧
  ∀ t b H', Same H H' → SqT K H' t [.ref b, .int (turnC (goC (cfgOf s g1) r.1 p).2 wt - turnC (goC (cfgOf s g2) r.2 p).2 wt)] → IsPr K H' b ((goC (cfgOf s g1) r.1 p).1, (goC (cfgOf s g2) r.2 p).1) → Q (.ref t) H'
theorem ok_both_behind (T : Nms mg) (HC : HouseC K C) (D_laid : Df K mg "laid" s_laid p_laid f1 fd1) (D_come : Df K mg "come" s_come p_come f2 fd2) (D_asked : Df K mg "asked" s_asked p_asked f3 fd3) (D_started : Df K mg "started" s_started p_started f4 fd4)
    (D_strided : Df K mg "strided" s_strided p_strided f5 fd5) (D_paired : Df K mg "paired" s_paired p_paired f6 fd6) (D_stepped : Df K mg "stepped" s_stepped p_stepped f7 fd7) (D_gone_on : Df K mg "gone_on" s_gone_on p_gone_on f8 fd8)
    (D_turn_cost : Df K mg "turn_cost" s_turn_cost p_turn_cost f9 fd9) (F : Fun K "both_behind" "both_behind" s_both_behind f fd) : FnOk P w K mg base CX0 7 f fd p_both_behind (spBB K C) := by
  have G_gone_on : FnOk P w K mg base CX0 6 f8 fd8 p_gone_on (spGone K C) := ok_gone_on T HC D_laid D_come D_asked D_started D_strided D_paired D_stepped D_gone_on.F
  have G_turn_cost : FnOk P w K mg base CX0 1 f9 fd9 p_turn_cost (spTC K) := ok_turn_cost D_turn_cost.F
  refine F.ok sc_both_behind (fun vs H Q E h => ?_) (fun cdv A outer s H vs Q E hr h => ?_)
  · obtain ⟨h, gp, sp, wp, v1, v2, s, g1, g2, p, r, N, wt, rfl, _⟩ := h
    rfl
  obtain ⟨h, gp, sp, wp, v1, v2, s, g1, g2, p, r, N, wt, rfl, hh, gS, hgp, hG1, gd1, hG2, gd2, ⟨a1, a2, hsp, i1, i2⟩, o1, o2, hN, hw, gw, q⟩ := h
  have step : ∀ (g : G) (r : RSt), good 3 g = true → OkR s g N r → r.1.length ≤ 100 ∧ r.2.1.length ≤ 100 ∧ (goC (cfgOf s g) r p).2.length ≤ 34 := fun g r hg o => by
    have l1 := o.iv.l1
    have l2 := o.iv.l2
    have r2 := gS.r2
    have w2 := gS.w2
    exact ⟨by omega, by omega, gone_len (cfg_ok gS hg) l2 o.ft o.ok⟩
  refine ⟨_, (pss_cons (ps_set (i := 5) sc_both_behind.nd rfl (Or.inl rfl) (pe_lst pa_nil))
  (pss_cons (ps_set (i := 6) sc_both_behind.nd rfl (Or.inl rfl) (pe_lst pa_nil))
  (pss_cons (ps_for PassesOwn.never rfl (RZ.pi_zipA (by rfl) T.n_zip (pa_cons (pv 1) (pa_cons (pv 2) pa_nil))) (pg_tup rfl (pgs_cons (pg_name (i := 7) sc_both_behind.nd rfl (Or.inl rfl)) (pgs_cons (pg_name (i := 8) sc_both_behind.nd rfl (Or.inl rfl)) pgs_nil)))
    (pss_cons (ps_asg (pe_call G_gone_on (hr.mono (by first | decide | omega)) (by rfl) D_gone_on.m D_gone_on.F.kp D_gone_on.b .nil pass0 (pa_cons (pv 0) (pa_cons (pv 7) (pa_cons (pv 8) (pa_cons (pv 3) pa_nil))))) (pg_tup rfl (pgs_cons (pg_name (i := 9) sc_both_behind.nd rfl (Or.inl rfl)) (pgs_cons (pg_name (i := 10) sc_both_behind.nd rfl (Or.inl rfl)) pgs_nil))))
    (pss_cons (ps_expr (pe_bm PySem.F.plainAttrs_list PySem.F.slot_list_append PySem.F.type_list_append mt_append (pv 5) (pa_cons (pv 9) pa_nil)))
    (pss_one (ps_expr (pe_bm PySem.F.plainAttrs_list PySem.F.slot_list_append PySem.F.type_list_append mt_append (pv 6) (pa_cons (pe_call G_turn_cost (hr.mono (by first | decide | omega)) (by rfl) D_turn_cost.m D_turn_cost.F.kp D_turn_cost.b .nil pass0 (pa_cons (pv 10) (pa_cons (pv 4) pa_nil))) pa_nil)))))))
  (pss_one (ps_ret (pe_tup (pa_cons (pe_callTy call_tuple_of (by rfl) T.n_tuple (by decide +kernel) (pa_cons (pv 5) pa_nil)) (pa_cons (pe_op op_sub (pe_ix ix_list (pv 6) pe_int (fun _ _ => rfl)) (pe_ix ix_list (pv 6) pe_int (fun _ _ => rfl))) pa_nil)))))))), ?_⟩
  refine ⟨Nat.zero_le _, fun F nF => ?_⟩
  refine ⟨Nat.zero_le _, fun L nL => ?_⟩
  have nL' : H L = none := by
    cases e : H L with
    | none => rfl
    | some o => rw [same_upd nF _ _ e] at nL; cases nL
  have nFL : F ≠ L := fun z => by subst z; rw [upd_same] at nL; cases nL
  have s0 : Same H (upd (upd H F (.lst [])) L (.lst [])) := (same_upd nF).trans (same_upd nL)
  refine ⟨_, rfl, _, rfl, gp, sp, _, _, rfl, .inr ⟨same_t s0 hgp, same_t s0 hsp, ?_⟩⟩
  refine for_it (walk_zipT (xs := [v1, v2]) (ys := [.ref a1, .ref a2]) rfl) (fun i σ H' => ∃ y7 y8 y9 y10 bs, σ = [some (.ref h), some (.ref gp), some (.ref sp), some (.int p), some (.ref wp), some (.ref F), some (.ref L), y7, y8, y9, y10] ∧ Same H H' ∧
    H' F = some (.lst (bs.map V.ref)) ∧ Paired (fun b (e : RSt × Int) => IsSt K H' b e.1) bs ([((goC (cfgOf s g1) r.1 p).1, turnC (goC (cfgOf s g1) r.1 p).2 wt), ((goC (cfgOf s g2) r.2 p).1, turnC (goC (cfgOf s g2) r.2 p).2 wt)].take i) ∧
    H' L = some (.lst ((([((goC (cfgOf s g1) r.1 p).1, turnC (goC (cfgOf s g1) r.1 p).2 wt), ((goC (cfgOf s g2) r.2 p).1, turnC (goC (cfgOf s g2) r.2 p).2 wt)].take i).map (·.2)).map V.int)))
    ⟨none, none, none, none, [], rfl, s0, by rw [upd_ne nFL]; exact upd_same, .nil, upd_same⟩ (fun i σ H' _ h => ?_) (fun i x σ H' H'' hi h y => ?_) (fun σ H' h => ?_)
  · obtain ⟨y7, y8, y9, y10, bs, rfl, s1, _⟩ := h
    exact ⟨same_t s1 hgp, same_t s1 hsp⟩
  · obtain ⟨y7, y8, y9, y10, bs, rfl, s1, eF, pb, eL⟩ := h
    obtain ⟨T0, x1, y1, rfl, nT, rfl, ex, ey⟩ := y
    obtain ⟨g, r0, a, rfl, hG, hgd, hi1, ho, tk⟩ : ∃ (g : G) (r0 : RSt) (a : Addr), y1 = .ref a ∧ IsG K H g x1 ∧ good 3 g = true ∧ IsSt K H a r0 ∧ OkR s g N r0 ∧
        ([((goC (cfgOf s g1) r.1 p).1, turnC (goC (cfgOf s g1) r.1 p).2 wt), ((goC (cfgOf s g2) r.2 p).1, turnC (goC (cfgOf s g2) r.2 p).2 wt)].take (i + 1)) = ([((goC (cfgOf s g1) r.1 p).1, turnC (goC (cfgOf s g1) r.1 p).2 wt), ((goC (cfgOf s g2) r.2 p).1, turnC (goC (cfgOf s g2) r.2 p).2 wt)].take i) ++ [((goC (cfgOf s g) r0 p).1, turnC (goC (cfgOf s g) r0 p).2 wt)] := by
      match i, hi with
      | 0, _ =>
        cases Option.some.inj ex
        cases Option.some.inj ey
        exact ⟨g1, r.1, a1, rfl, hG1, gd1, i1, o1, rfl⟩
      | 1, _ =>
        cases Option.some.inj ex
        cases Option.some.inj ey
        exact ⟨g2, r.2, a2, rfl, hG2, gd2, i2, o2, rfl⟩
    rw [tk]
    have lrs : ([((goC (cfgOf s g1) r.1 p).1, turnC (goC (cfgOf s g1) r.1 p).2 wt), ((goC (cfgOf s g2) r.2 p).1, turnC (goC (cfgOf s g2) r.2 p).2 wt)].take i).length ≤ 2 := by rw [List.length_take]; exact Nat.min_le_right _ _
    generalize ([((goC (cfgOf s g1) r.1 p).1, turnC (goC (cfgOf s g1) r.1 p).2 wt), ((goC (cfgOf s g2) r.2 p).1, turnC (goC (cfgOf s g2) r.2 p).2 wt)].take i) = rs at pb eL lrs ⊢
    have lbs : bs.length = rs.length := Paired.length pb
    obtain ⟨z1, z2, z3⟩ := step g r0 hgd ho
    have s2 : Same H' (upd H' T0 (.tup [x1, .ref a])) := same_upd nT
    have e2 : SqT K (upd H' T0 (.tup [x1, .ref a])) T0 [x1, .ref a] := sqt upd_same
    have eF2 := s2 _ _ eF
    have eL2 := s2 _ _ eL
    have pb2 : Paired (fun b (e : RSt × Int) => IsSt K (upd H' T0 (.tup [x1, .ref a])) b e.1) bs rs := Paired.mapP pb fun _ _ z => z.imm (Imm.same s2)
    have s12 := s1.trans s2
    generalize upd H' T0 (.tup [x1, .ref a]) = H2 at s2 e2 eF2 eL2 pb2 s12 ⊢
    refine ⟨T0, _, rfl, e2, rfl, _, _, rfl, _, _, rfl, rfl, ?_⟩
    and_intros
    refine ⟨h, a, x1, g, _, _, _, _, p, r0, N, rfl, hh.same s12, hG.same s12, hgd, hi1.imm (Imm.same s12), ho.ft, ho.ok, hN, gS.r1, z1, z2, fun q3 st ev H3 s3 nev e3 jst jev => ?_⟩
    have eF3 := s3 _ _ eF2
    have eL3 := s3 _ _ eL2
    have pb3 : Paired (fun b (e : RSt × Int) => IsSt K H3 b e.1) bs rs := Paired.mapP pb2 fun _ _ z => z.imm (Imm.same s3)
    have s13 := s12.trans s3
    have jst : IsSt K H3 st (goC (cfgOf s g) r0 p).1 := jst
    have jev : IsEv K H3 ev (goC (cfgOf s g) r0 p).2 := jev
    generalize goC (cfgOf s g) r0 p = go at jst jev z3 ⊢
    refine ⟨q3, _, rfl, sqt e3, rfl, _, _, rfl, _, _, rfl, rfl, ?_⟩
    refine ⟨_, rfl, .inl ⟨rfl, _, sql eF3⟩, _, rfl, _, _, _, rfl, rfl, eF3, by rw [List.length_map]; exact szl (by omega), ?_⟩
    have nF3 : ∀ c, LstAt H3 c → True := fun _ _ => True.intro
    have sX : SameX F H3 (upd H3 F (.lst (bs.map V.ref ++ [.ref st]))) := SameX.upd
    have imX : Imm H3 (upd H3 F (.lst (bs.map V.ref ++ [.ref st]))) := Imm.upd ⟨_, eF3⟩
    have eL4 := sX _ _ nFL.symm eL3
    have eF4 : (upd H3 F (.lst (bs.map V.ref ++ [.ref st]))) F = some (.lst ((bs ++ [st]).map V.ref)) := by rw [upd_same, List.map_append]; rfl
    have nevF : ev ≠ F := fun z => by
      rw [z, eF2] at nev
      cases nev
    have jev4 := jev
    obtain ⟨as4, ja, jb⟩ := jev4
    have jev4 : IsEv K (upd H3 F (.lst (bs.map V.ref ++ [.ref st]))) ev go.2 := ⟨as4, sX _ _ nevF ja, jb.imm imX⟩
    have s4 : Same H (upd H3 F (.lst (bs.map V.ref ++ [.ref st]))) := same_mut s13 nF
    have pb4 : Paired (fun b (e : RSt × Int) => IsSt K (upd H3 F (.lst (bs.map V.ref ++ [.ref st]))) b e.1) (bs ++ [st]) (rs ++ [(go.1, turnC go.2 wt)]) := Paired.snoc (Paired.mapP pb3 fun _ _ z => z.imm imX) (jst.imm imX)
    generalize upd H3 F (.lst (bs.map V.ref ++ [.ref st])) = H4 at eL4 eF4 jev4 s4 pb4 ⊢
    refine ⟨_, rfl, .inl ⟨rfl, _, sql eL4⟩, ?_⟩
    and_intros
    refine ⟨ev, wp, go.2, wt, rfl, jev4, same_t s4 hw, gw, by omega, fun H5 s5 => ?_⟩
    have eL5 := s5 _ _ eL4
    have eF5 := s5 _ _ eF4
    refine ⟨_, _, _, rfl, rfl, eL5, by rw [List.length_map, List.length_map]; exact szl (by omega), ?_⟩
    have s45 := s4.trans s5
    refine ⟨_, _, _, _, bs ++ [st], rfl, same_mut s45 nL', SameX.upd _ _ nFL eF5, Paired.mapP pb4 fun _ _ z => (z.imm (Imm.same s5)).imm (Imm.upd ⟨_, eL5⟩), ?_⟩
    rw [upd_same, List.map_append, List.map_append]
    rfl
  · obtain ⟨y7, y8, y9, y10, bs, rfl, s1, eF, pb, eL⟩ := h
    have eL : H' L = some (.lst [.int (turnC (goC (cfgOf s g1) r.1 p).2 wt), .int (turnC (goC (cfgOf s g2) r.2 p).2 wt)]) := eL
    have pb : Paired (fun b (e : RSt × Int) => IsSt K H' b e.1) bs [((goC (cfgOf s g1) r.1 p).1, turnC (goC (cfgOf s g1) r.1 p).2 wt), ((goC (cfgOf s g2) r.2 p).1, turnC (goC (cfgOf s g2) r.2 p).2 wt)] := pb
    cases pb with
    | cons p1 pb =>
      cases pb with
      | cons p2 pb =>
        cases pb
        rename_i b1 b2
        have eF : H' F = some (.lst [.ref b1, .ref b2]) := eF
        generalize hd1 : goC (cfgOf s g1) r.1 p = d1 at p1 eL q
        generalize hd2 : goC (cfgOf s g2) r.2 p = d2 at p2 eL q
        refine ⟨_, rfl, _, _, rfl, .inl ⟨sql eF, fun t nt => ?_⟩⟩
        have s2 : Same H' (upd H' t (.tup [.ref b1, .ref b2])) := same_upd nt
        have eL2 := s2 _ _ eL
        have et : SqT K (upd H' t (.tup [.ref b1, .ref b2])) t [.ref b1, .ref b2] := sqt upd_same
        have p1' := p1.imm (Imm.same s2)
        have p2' := p2.imm (Imm.same s2)
        have s12 := s1.trans s2
        generalize upd H' t (.tup [.ref b1, .ref b2]) = H2 at s2 eL2 et p1' p2' s12 ⊢
        refine ⟨_, rfl, _, _, _, _, rfl, rfl, sql eL2, atI_nat (j := 0) rfl, _, rfl, _, _, _, _, rfl, rfl, sql eL2, atI_nat (j := 1) rfl, _, _, rfl, rfl, ?_⟩
        refine ⟨sz_2, fun u nu => ?_⟩
        have s3 : Same H2 (upd H2 u (.tup [.ref t, .int (turnC d1.2 wt - turnC d2.2 wt)])) := same_upd nu
        exact q u t _ (s12.trans s3) (sqt upd_same) ⟨b1, b2, same_t s3 et, p1'.imm (Imm.same s3), p2'.imm (Imm.same s3)⟩
end
end St

namespace St
open PySem PySem.Spec PyProof.Rows L2
/-! ### data of numbers, texts, lists and tuples: its form, and that it is like itself -/
def shp : Nat → PyData → Prop
  | _, .int _ => True
  | _, .none => True
  | _, .bool _ => True
  | _, .str x => PyData.canLay0 (.str x) = true
  | n + 1, .list xs => ∀ d ∈ xs, shp n d
  | n + 1, .tuple xs => ∀ d ∈ xs, shp n d
  | _, _ => False
theorem shp_all {n : Nat} : ∀ {xs : List PyData}, (∀ d ∈ xs, d.canLay0 = true ∧ d.depth ≤ n) → PyData.canLayAll0 xs = true ∧ PyData.depthAll xs ≤ n
  | [], _ => ⟨by simp [PyData.canLayAll0], by simp [PyData.depthAll]⟩
  | x :: xs, h => by
    obtain ⟨a, b⟩ := h x (List.mem_cons_self ..)
    obtain ⟨c, d⟩ := shp_all fun y hy => h y (List.mem_cons_of_mem _ hy)
    refine ⟨by simp [PyData.canLayAll0, a, c], ?_⟩
    simp only [PyData.depthAll]
    exact Nat.max_le.mpr ⟨b, d⟩
theorem shp_ok : ∀ {n : Nat} {d : PyData}, shp n d → d.canLay0 = true ∧ d.depth ≤ n
  | _, .int _, _ => ⟨by simp [PyData.canLay0], by simp [PyData.depth]⟩
  | _, .none, _ => ⟨by simp [PyData.canLay0], by simp [PyData.depth]⟩
  | _, .bool _, _ => ⟨by simp [PyData.canLay0], by simp [PyData.depth]⟩
  | n, .str x, h => ⟨by cases n <;> exact h, by simp [PyData.depth]⟩
  | 0, .list _, h => h.elim
  | 0, .tuple _, h => h.elim
  | 0, .dict _, h => h.elim
  | _ + 1, .dict _, h => h.elim
  | n + 1, .list xs, h => by
    obtain ⟨a, b⟩ := shp_all (n := n) fun d hd => shp_ok (h d hd)
    exact ⟨by simp only [PyData.canLay0]; exact a, by simp only [PyData.depth]; omega⟩
  | n + 1, .tuple xs, h => by
    obtain ⟨a, b⟩ := shp_all (n := n) fun d hd => shp_ok (h d hd)
    exact ⟨by simp only [PyData.canLay0]; exact a, by simp only [PyData.depth]; omega⟩
theorem shp_lay {n : Nat} {d : PyData} (h : shp n d) (hn : n ≤ 64) : SeqAt.shaped d = true := by
  obtain ⟨a, b⟩ := shp_ok h
  unfold SeqAt.shaped
  rw [Bool.and_eq_true]
  exact ⟨a, decide_eq_true (by omega)⟩
theorem shp_refl {n : Nat} {d : PyData} (h : shp n d) : PyData.eqv d d = true := SeqAt.eqv_refl d (shp_ok h).1
/-! rows, deeds -/
def dR (e : Int × Str × Int) : PyData := .tuple [.int e.1, .str e.2.1, .int e.2.2]
def dRs (rs : List (Int × Str × Int)) : PyData := .list (rs.map dR)
def dD : Deed → PyData
  | (p, none) => .tuple [.str "read", .int p]
  | (p, some v) => .tuple [.str "write", .int p, .int v]
theorem dp_pair {K : PySem.W.Frag} {H : Hp} {β : Type} {F : Addr → β → Prop} {D : β → PyData} (f : ∀ p b, F p b → Dp K H (.ref p) (D b)) : ∀ {as : List Addr} {bs : List β}, Paired F as bs → DpAll K H (as.map V.ref) (bs.map D)
  | _, _, .nil => .nil
  | _, _, .cons h t => .cons (f _ _ h) (dp_pair f t)
theorem dp_R {K : PySem.W.Frag} {H : Hp} {p : Addr} {e : Int × Str × Int} (h : SqT K H p [.int e.1, .str e.2.1, .int e.2.2]) : Dp K H (.ref p) (dR e) := .tup h (.cons (.int _) (.cons (.str _) (.cons (.int _) .nil)))
theorem dp_D {K : PySem.W.Frag} {H : Hp} {p : Addr} : ∀ {d : Deed}, IsDeed K H p d → Dp K H (.ref p) (dD d)
  | (_, none), h => .tup h (.cons (.str _) (.cons (.int _) .nil))
  | (_, some _), h => .tup h (.cons (.str _) (.cons (.int _) (.cons (.int _) .nil)))
theorem dp_Rs {K : PySem.W.Frag} {H : Hp} {a : Addr} {rs : List (Int × Str × Int)} (h : IsRs K H a rs) : Dp K H (.ref a) (dRs rs) := by
  obtain ⟨as, h1, h2⟩ := h
  exact .lst (sql h1) (dp_pair (fun _ _ z => dp_R z) h2)
theorem dp_Ds {K : PySem.W.Frag} {H : Hp} {a : Addr} {as : List Addr} {ds : List Deed} (h : SqL K H a (as.map V.ref)) (p : PrD K H as ds) : Dp K H (.ref a) (.list (ds.map dD)) := .lst h (dp_pair (fun _ _ z => dp_D z) p)
theorem shp_Ds (ds : List Deed) : shp 2 (.list (ds.map dD)) := by
  intro d hd
  obtain ⟨⟨p, v⟩, _, rfl⟩ := List.mem_map.mp hd
  cases v with
  | none =>
    intro e he
    simp only [List.mem_cons, List.not_mem_nil, or_false] at he
    rcases he with rfl | rfl
    · show PyData.canLay0 (.str "read") = true
      decide +kernel
    · trivial
  | some v =>
    intro e he
    simp only [List.mem_cons, List.not_mem_nil, or_false] at he
    rcases he with rfl | rfl | rfl
    · show PyData.canLay0 (.str "write") = true
      decide +kernel
    · trivial
    · trivial
theorem dep_Rs {rs : List (Int × Str × Int)} (h : rs.length ≤ 100000) : dep 3 (dRs rs) := by
  refine ⟨by rw [List.length_map]; exact h, fun d hd => ?_⟩
  obtain ⟨e, _, rfl⟩ := List.mem_map.mp hd
  refine ⟨by show 3 ≤ 100000; decide, fun d hd => ?_⟩
  simp only [List.mem_cons, List.not_mem_nil, or_false] at hd
  rcases hd with rfl | rfl | rfl <;> trivial
end St

namespace St
open PySem PySem.Spec PyProof.Rows L2
/-! ### guessers as data -/
def dG : G → PyData
  | .nil => .tuple []
  | .leaf w ns => .tuple (.str w :: ns.map .int)
  | .b1 a => .tuple [.str "both", dG a]
  | .both a b => .tuple [.str "both", dG a, dG b]
  | .b3 a b c => .tuple [.str "both", dG a, dG b, dG c]
theorem dpA_ints {K : PySem.W.Frag} {H : Hp} : ∀ l : List Int, DpAll K H (l.map V.int) (l.map PyData.int)
  | [] => .nil
  | a :: r => .cons (.int a) (dpA_ints r)
theorem dp_G {K : PySem.W.Frag} {H : Hp} : ∀ {g : G} {v : V}, IsG K H g v → Dp K H v (dG g)
  | .nil, _, ⟨_, rfl, h⟩ => .tup h .nil
  | .leaf _ ns, _, ⟨_, rfl, h⟩ => .tup h (.cons (.str _) (dpA_ints ns))
  | .b1 _, _, ⟨_, _, rfl, h, ha⟩ => .tup h (.cons (.str _) (.cons (dp_G ha) .nil))
  | .both _ _, _, ⟨_, _, _, rfl, h, ha, hb⟩ => .tup h (.cons (.str _) (.cons (dp_G ha) (.cons (dp_G hb) .nil)))
  | .b3 _ _ _, _, ⟨_, _, _, _, rfl, h, ha, hb, hc⟩ => .tup h (.cons (.str _) (.cons (dp_G ha) (.cons (dp_G hb) (.cons (dp_G hc) .nil))))
theorem good_up : ∀ {n : Nat} {g : G}, good n g = true → good (n + 1) g = true
  | _, .nil, h => by simp [good] at h
  | _, .b1 _, h => by simp [good] at h
  | _, .b3 _ _ _, h => by simp [good] at h
  | n, .leaf w ns, h => by unfold good at h ⊢; exact h
  | 0, .both _ _, h => by simp [good] at h
  | n + 1, .both a b, h => by
    have h' : (good n a && good n b) = true := h
    rw [Bool.and_eq_true] at h'
    show (good (n + 1) a && good (n + 1) b) = true
    rw [Bool.and_eq_true]
    exact ⟨good_up h'.1, good_up h'.2⟩
theorem lay_w {w : Str} (h : w = "none" ∨ w = "next" ∨ w = "stride" ∨ w = "pairs" ∨ w = "both") : PyData.canLay0 (.str w) = true := by
  rcases h with rfl | rfl | rfl | rfl | rfl <;> decide +kernel
theorem leaf_w {n : Nat} {w : Str} {ns : List Int} (h : good n (.leaf w ns) = true) : w = "none" ∨ w = "next" ∨ w = "stride" ∨ w = "pairs" ∨ w = "both" := by
  unfold good at h
  rw [Bool.or_eq_true] at h
  rcases h with h | h
  · exact .inl (of_decide_eq_true h).1
  · match ns, h with
    | [n], h =>
      rcases of_decide_eq_true h with h | h | h
      · exact .inr (.inl h.1)
      · exact .inr (.inr (.inl h.1))
      · exact .inr (.inr (.inr (.inl h.1)))
theorem shp_G : ∀ {n : Nat} {g : G}, good n g = true → shp (n + 1) (dG g)
  | _, .nil, h => by simp [good] at h
  | _, .b1 _, h => by simp [good] at h
  | _, .b3 _ _ _, h => by simp [good] at h
  | n, .leaf w ns, h => by
    intro d hd
    rcases List.mem_cons.mp hd with rfl | hd
    · cases n <;> exact lay_w (leaf_w h)
    · obtain ⟨i, _, rfl⟩ := List.mem_map.mp hd
      cases n <;> trivial
  | 0, .both _ _, h => by simp [good] at h
  | n + 1, .both a b, h => by
    have h' : (good n a && good n b) = true := h
    rw [Bool.and_eq_true] at h'
    intro d hd
    simp only [List.mem_cons, List.not_mem_nil, or_false] at hd
    rcases hd with rfl | rfl | rfl
    · exact lay_w (by simp)
    · exact shp_G h'.1
    · exact shp_G h'.2
def dGs (gs : List G) : PyData := .list (gs.map dG)
theorem shp_Gs {gs : List G} (h : ∀ g ∈ gs, good 3 g = true) : shp 5 (dGs gs) := by
  intro d hd
  obtain ⟨g, hg, rfl⟩ := List.mem_map.mp hd
  exact shp_G (h g hg)
def dPs (ps : List (Int × Int)) : PyData := .list (ps.map fun e => .tuple [.int e.1, .int e.2])
theorem dep_Ps {ps : List (Int × Int)} (h : ps.length ≤ 100000) : dep 3 (dPs ps) := by
  refine ⟨by rw [List.length_map]; exact h, fun d hd => ?_⟩
  obtain ⟨e, _, rfl⟩ := List.mem_map.mp hd
  refine ⟨by show 2 ≤ 100000; decide, fun d hd => ?_⟩
  simp only [List.mem_cons, List.not_mem_nil, or_false] at hd
  rcases hd with rfl | rfl <;> trivial
end St

namespace St
open PySem PySem.Spec PyProof.Rows L2
abbrev s_worst : Stmt := topS 55
abbrev N_worst : List Str := ["setting", "guesser", "other", "weights", "places", "length", "house", "guessers", "level", "turn", "behind", "states", "more", "row", "place", "there", "far", "choice", "found", "least"]
abbrev p_worst : List Str := ["setting", "guesser", "other", "weights", "places", "length"]
theorem sc_worst : FnScope N_worst p_worst (defScope s_worst) := ⟨rfl, rfl, rfl, by decide +kernel, rfl, by decide +kernel, by decide +kernel⟩
theorem walk_keysN {P : Program} {w : World} {d : Addr} {o : Obj} {xs : List NE} : Walk (ItN P w d o xs) xs.length (fun H => H d = some (.frz o (oN P w d xs))) (fun i H x H' => H' = H ∧ ∃ k v b, xs[i]? = some (k, b, v) ∧ x = .ref b) :=
  ⟨fun _ _ hi q => ⟨q, hi⟩, fun _ q => ⟨q, Nat.le_refl _⟩, fun _ _ _ _ _ _ y => y⟩
/-! ### a level as it lies in memory -/
/-- a number and a row in a tuple; the row's list is new -/
abbrev NN (H : Hp) : Addr → Prop := fun r => H r = none
def IsVal (K : PySem.W.Frag) (H0 : Addr → Prop) (H : Hp) (e : Int × List Int) (v : V) : Prop := ∃ t ra, v = .ref t ∧ SqT K H t [.int e.1, .ref ra] ∧ H ra = some (.lst (e.2.map V.int)) ∧ H0 ra
/-- the entries of a level -/
def LvE (K : PySem.W.Frag) (H0 : Addr → Prop) (H : Hp) (l : Lv) (xs : List NE) : Prop := Paired (fun (e : Cand) (x : NE) => x.1 = kP e.1 ∧ IsPr K H x.2.1 e.1 ∧ IsVal K H0 H e.2 x.2.2) l xs
theorem IsVal.x {K : PySem.W.Frag} {H0 : Addr → Prop} {H H' : Hp} {a : Addr} {e : Int × List Int} {v : V} (h : IsVal K H0 H e v) (s : SameX a H H') (im : Imm H H') (n : ∀ xs, H a ≠ some (.lst xs)) : IsVal K H0 H' e v := by
  obtain ⟨t, ra, e1, h1, h2, h3⟩ := h
  exact ⟨t, ra, e1, im.t h1, s _ _ (fun z => by subst z; exact n _ h2) h2, h3⟩
theorem IsVal.same {K : PySem.W.Frag} {H0 : Addr → Prop} {H H' : Hp} {e : Int × List Int} {v : V} (h : IsVal K H0 H e v) (s : Same H H') : IsVal K H0 H' e v := by
  obtain ⟨t, ra, e1, h1, h2, h3⟩ := h
  exact ⟨t, ra, e1, same_t s h1, s _ _ h2, h3⟩
theorem LvE.x {K : PySem.W.Frag} {H0 : Addr → Prop} {H H' : Hp} {a : Addr} {l : Lv} {xs : List NE} (h : LvE K H0 H l xs) (s : SameX a H H') (im : Imm H H') (n : ∀ xs, H a ≠ some (.lst xs)) : LvE K H0 H' l xs :=
  Paired.mapP h fun _ _ z => ⟨z.1, z.2.1.imm im, z.2.2.x s im n⟩
theorem LvE.same {K : PySem.W.Frag} {H0 : Addr → Prop} {H H' : Hp} {l : Lv} {xs : List NE} (h : LvE K H0 H l xs) (s : Same H H') : LvE K H0 H' l xs :=
  Paired.mapP h fun _ _ z => ⟨z.1, z.2.1.imm (Imm.same s), z.2.2.same s⟩
/-- candidates: of rows of so many places -/
def OkC (s : Stg) (g1 g2 : G) (w : Wts) (n m : Nat) (l : List Cand) : Prop := ∀ d ∈ l, ∃ ps : List Int, (∀ p ∈ ps, 0 ≤ p ∧ p < (n : Int)) ∧ ps.length = m ∧ d = fullOf (cfgOf s g1) (cfgOf s g2) w ps
theorem OkC.fit {s : Stg} {g1 g2 : G} {w : Wts} {n m : Nat} {l : List Cand} (h : OkC s g1 g2 w n m l) (hs : s.Good) (hn : n ≤ s.mem.length) (h1 : good 2 g1 = true) (h2 : good 2 g2 = true) : ∀ e ∈ l, OkR s g1 m e.1.1 ∧ OkR s g2 m e.1.2 := fun e he => by
  obtain ⟨ps, hp, rfl, rfl⟩ := h e he
  have hp' : ∀ p ∈ ps, 0 ≤ p ∧ p < ((s.mem.length : Nat) : Int) := fun p hpp => by have := hp p hpp; omega
  exact ⟨runC_ok w hs (good_up h1) hp', runC_ok w hs (good_up h2) hp'⟩
theorem OkC.len {s : Stg} {g1 g2 : G} {w : Wts} {n m : Nat} {l : List Cand} (h : OkC s g1 g2 w n m l) : ∀ e ∈ l, e.2.2.length = m := fun e he => by
  obtain ⟨ps, hp, rfl, rfl⟩ := h e he
  rfl
theorem lvl_ok (s : Stg) (g1 g2 : G) (w : Wts) (n k : Nat) : OkC s g1 g2 w n k (lvl (cfgOf s g1) (cfgOf s g2) w n k) := fun d hd => by
  obtain ⟨ps, hps, e⟩ := (best_lvl (cfgOf s g1) (cfgOf s g2) w n k).sub d hd
  exact ⟨ps, rows_in hps, rows_len hps, e⟩
theorem relaxs_sub (cs : List Cand) : ∀ d ∈ cs.foldl relax [], d ∈ cs := fun d hd => by
  have := relaxs_cov cs (l := []) (C := []) ⟨List.nodup_nil, fun _ m => (nomatch m), fun _ m => (nomatch m)⟩
  rw [List.nil_append] at this
  exact this.sub d hd
theorem lvl_nd (c1 c2 : Cfg) (w : Wts) (n : Nat) : ∀ k, ((lvl c1 c2 w n k).map (·.1)).Nodup
  | 0 => by show ([(st0 c1.g, st0 c2.g)] : List (RSt × RSt)).Nodup; simp
  | k + 1 => (relaxs_cov (candsOf c1 c2 w n (lvl c1 c2 w n k)) (l := []) (C := []) ⟨List.nodup_nil, fun _ m => (nomatch m), fun _ m => (nomatch m)⟩).nd
/-- what is held behind so many states, and so many places of the next -/
def part (c1 c2 : Cfg) (w : Wts) (n : Nat) (L : Lv) (j : Nat) (e : Cand) (m : Nat) : Lv := (candsOf c1 c2 w n (L.take j) ++ ((plR n).take m).map (candOf c1 c2 w e)).foldl relax []
theorem part_next (c1 c2 : Cfg) (w : Wts) {n : Nat} (L : Lv) (j : Nat) (e : Cand) {m : Nat} (h : m < n) : part c1 c2 w n L j e (m + 1) = relax (part c1 c2 w n L j e m) (candOf c1 c2 w e (0 + ((m : Nat) : Int))) := by
  unfold part
  rw [plR_take h, List.map_append, ← List.append_assoc, List.foldl_append]
  rfl
theorem part_zero (c1 c2 : Cfg) (w : Wts) (n : Nat) (L : Lv) (j : Nat) (e : Cand) : part c1 c2 w n L j e 0 = (candsOf c1 c2 w n (L.take j)).foldl relax [] := by
  unfold part
  rw [List.take_zero, List.map_nil, List.append_nil]
theorem part_end (c1 c2 : Cfg) (w : Wts) (n : Nat) (L : Lv) {j : Nat} {e : Cand} (h : L[j]? = some e) : part c1 c2 w n L j e n = (candsOf c1 c2 w n (L.take (j + 1))).foldl relax [] := by
  unfold part
  have : (plR n).take n = plR n := List.take_of_length_le (by unfold plR; rw [List.length_map, List.length_range]; omega)
  rw [this, List.take_add_one, h]
  unfold candsOf
  rw [List.flatMap_append]
  simp
theorem part_ok {s : Stg} {g1 g2 : G} {w : Wts} {n i : Nat} {L : Lv} (h : OkC s g1 g2 w n i L) {j : Nat} {e : Cand} (he : L[j]? = some e) (m : Nat) : OkC s g1 g2 w n (i + 1) (part (cfgOf s g1) (cfgOf s g2) w n L j e m) := fun d hd => by
  have step : ∀ f ∈ L, ∀ p ∈ plR n, ∃ ps : List Int, (∀ p ∈ ps, 0 ≤ p ∧ p < (n : Int)) ∧ ps.length = i + 1 ∧ candOf (cfgOf s g1) (cfgOf s g2) w f p = fullOf (cfgOf s g1) (cfgOf s g2) w ps := fun f hf p hp => by
    obtain ⟨ps, h1, h2, rfl⟩ := h f hf
    refine ⟨ps ++ [p], fun q hq => ?_, by rw [List.length_append, h2]; rfl, (full_cand _ _ _ _ _).symm⟩
    rcases List.mem_append.mp hq with z | z
    · exact h1 q z
    · have : q = p := by simpa using z
      rw [this]
      exact mem_plR.mp hp
  rcases List.mem_append.mp (relaxs_sub _ d hd) with z | z
  · obtain ⟨f, hf, z⟩ := List.mem_flatMap.mp z
    obtain ⟨p, hp, rfl⟩ := List.mem_map.mp z
    exact step f (List.mem_of_mem_take hf) p hp
  · obtain ⟨p, hp, rfl⟩ := List.mem_map.mp z
    exact step e (List.mem_of_getElem? he) p (List.mem_of_mem_take hp)
theorem part_len (c1 c2 : Cfg) (w : Wts) (n : Nat) (L : Lv) (j : Nat) (e : Cand) (m : Nat) : (part c1 c2 w n L j e m).length ≤ L.length * n + m := by
  have h1 := relaxs_len (candsOf c1 c2 w n (L.take j) ++ ((plR n).take m).map (candOf c1 c2 w e)) []
  rw [List.length_append, List.length_map, cands_len, List.length_take, List.length_take, List.length_nil] at h1
  have h2 : min j L.length * n ≤ L.length * n := Nat.mul_le_mul_right n (Nat.min_le_right _ _)
  unfold part
  omega
theorem LvE.ks {K : PySem.W.Frag} {H0 : Addr → Prop} {H : Hp} {l : Lv} {xs : List NE} {g1 g2 : G} {s : Stg} {m : Nat} (h : LvE K H0 H l xs) (h1 : good 2 g1 = true) (h2 : good 2 g2 = true) (f : ∀ e ∈ l, OkR s g1 m e.1.1 ∧ OkR s g2 m e.1.2) : KsN K H xs := by
  unfold LvE at h
  induction h with
  | nil => intro x hx; exact nomatch hx
  | @cons e x l xs z t ih =>
    intro y hy
    rcases List.mem_cons.mp hy with q | q
    · subst q
      obtain ⟨z1, z2, _⟩ := z
      have f0 := f e List.mem_cons_self
      rw [z1]
      exact ⟨z2.ky, kP_depth h1 f0.1.ft h2 f0.2.ft⟩
    · exact ih (fun a m => f a (List.mem_cons_of_mem _ m)) y q
theorem LvE.at_ {K : PySem.W.Frag} {H0 : Addr → Prop} {H : Hp} {l : Lv} {xs : List NE} (h : LvE K H0 H l xs) (k : RSt × RSt) : (lvAt l k = none ∧ atN xs (kP k) = none) ∨ ∃ o v, lvAt l k = some o ∧ atN xs (kP k) = some v ∧ IsVal K H0 H o v := by
  unfold LvE at h
  induction h with
  | nil => exact .inl ⟨rfl, rfl⟩
  | @cons e x l xs z t ih =>
    obtain ⟨z1, z2, z3⟩ := z
    by_cases q : kP e.1 = kP k
    · refine .inr ⟨e.2, x.2.2, ?_, ?_, z3⟩
      · simp [lvAt, List.find?_cons, q]
      · simp [atN, List.find?_cons, z1, q]
    · have a1 : lvAt (e :: l) k = lvAt l k := by simp [lvAt, List.find?_cons, q]
      have a2 : atN (x :: xs) (kP k) = atN xs (kP k) := by simp [atN, List.find?_cons, z1, q]
      rw [a1, a2]
      exact ih
theorem LvE.get {K : PySem.W.Frag} {H0 : Addr → Prop} {H : Hp} {l : Lv} {xs : List NE} (h : LvE K H0 H l xs) (nd : (l.map (·.1)).Nodup) {j : Nat} {k : NestedKey} {b : Addr} {v : V} (hx : xs[j]? = some (k, b, v)) :
    ∃ e v', l[j]? = some e ∧ k = kP e.1 ∧ IsPr K H b e.1 ∧ atN xs k = some v' ∧ IsVal K H0 H e.2 v' := by
  have hl : xs.length = l.length := (Paired.length h).symm
  have hj : j < l.length := by
    obtain ⟨a, _⟩ := List.getElem?_eq_some_iff.mp hx
    omega
  obtain ⟨y, hy, y1, y2, y3⟩ := L2.paired_get h (List.getElem?_eq_getElem hj)
  rw [hx] at hy
  cases hy
  refine ⟨l[j], ?_⟩
  have hm : l[j] ∈ l := List.getElem_mem hj
  rcases h.at_ l[j].1 with ⟨a1, a2⟩ | ⟨o, v', a1, a2, a3⟩
  · exact absurd rfl (lvAt_none a1 _ hm)
  · have e := nodup_key nd (lvAt_some a1) hm rfl
    have y1 : k = kP l[j].1 := y1
    have e2 : o = l[j].2 := congrArg Prod.snd e
    subst e2
    exact ⟨v', List.getElem?_eq_getElem hj, y1, y2, by rw [y1]; exact a2, a3⟩
theorem LvE.put {K : PySem.W.Frag} {H0 : Addr → Prop} {H : Hp} {l : Lv} {xs : List NE} (h : LvE K H0 H l xs) {k : RSt × RSt} {b : Addr} {o : Int × List Int} {v : V} (hb : IsPr K H b k) (hv : IsVal K H0 H o v) : LvE K H0 H (lvPut l k o) (putN xs (kP k) b v) := by
  have e : (lvAt l k).isSome = (atN xs (kP k)).isSome := by
    rcases h.at_ k with ⟨a1, a2⟩ | ⟨o', v', a1, a2, _⟩
    · rw [a1, a2]; rfl
    · rw [a1, a2]; rfl
  unfold lvPut putN
  rw [e]
  by_cases q : (atN xs (kP k)).isSome = true
  · rw [if_pos q, if_pos q]
    unfold LvE at h ⊢
    clear e q
    induction h with
    | nil => exact .nil
    | @cons e x l xs z t ih =>
      rw [List.map_cons, List.map_cons]
      refine .cons ?_ ih
      obtain ⟨z1, z2, z3⟩ := z
      by_cases q : kP e.1 = kP k
      · rw [if_pos q, if_pos (z1.trans q)]; exact ⟨z1, z2, hv⟩
      · rw [if_neg q, if_neg (fun y => q (z1.symm.trans y))]; exact ⟨z1, z2, z3⟩
  · rw [if_neg q, if_neg q]
    exact Paired.snoc h ⟨rfl, hb, hv⟩
theorem relax_mem (l : Lv) (c : Cand) : c.1 ∈ (relax l c).map (·.1) := by
  have put : c.1 ∈ (lvPut l c.1 c.2).map (·.1) := by
    unfold lvPut
    cases q : lvAt l c.1 with
    | none => simp
    | some o =>
      refine List.mem_map.mpr ⟨(c.1, c.2), List.mem_map.mpr ⟨(c.1, o), lvAt_some q, if_pos rfl⟩, rfl⟩
  unfold relax
  cases q : lvAt l c.1 with
  | none => exact put
  | some o =>
    show c.1 ∈ (if ltP (ngV c.2) (ngV o) = true then lvPut l c.1 c.2 else l).map (·.1)
    split
    · exact put
    · exact List.mem_map.mpr ⟨_, lvAt_some q, rfl⟩
theorem lvl_ne (c1 c2 : Cfg) (w : Wts) {n : Nat} (h : 1 ≤ n) (k : Nat) : lvl c1 c2 w n k ≠ [] := fun z => by
  have B := best_lvl c1 c2 w n k
  have hl : (rowsP n k).length = n ^ k := rows_count n k
  have hp : 0 < n ^ k := Nat.pow_pos h
  cases hR : rowsP n k with
  | nil => rw [hR] at hl; rw [← hl] at hp; exact absurd hp (by decide)
  | cons r R =>
    obtain ⟨e, he, _⟩ := B.has r (by rw [hR]; exact List.mem_cons_self)
    rw [z] at he
    exact nomatch he
theorem dp_intsW {K : PySem.W.Frag} {H : Hp} : ∀ l : List Int, DpAll K H (l.map V.int) (l.map PyData.int)
  | [] => .nil
  | a :: l => .cons (.int a) (dp_intsW l)
theorem dp_pr {K : PySem.W.Frag} {H : Hp} {t ra : Addr} {p : Int × List Int} (h1 : SqT K H t [.int p.1, .ref ra]) (h2 : H ra = some (.lst (p.2.map V.int))) : Dp K H (.ref t) (toDP p) :=
  .tup h1 (.cons (.int _) (.cons (.lst (sql h2) (dp_intsW _)) .nil))
theorem paired_to {α β : Type} {G : α → β → Prop} {l₁ : List α} {l₂ : List β} (h : Paired G l₁ l₂) {i : Nat} {a : α} {b : β} (ha : l₁[i]? = some a) (hb : l₂[i]? = some b) : G a b := by
  obtain ⟨b', h1, h2⟩ := L2.paired_get h ha
  rw [hb] at h1
  cases h1
  exact h2
theorem IsVal.dp {K : PySem.W.Frag} {H0 : Addr → Prop} {H : Hp} {p : Int × List Int} {v : V} (h : IsVal K H0 H p v) : Dp K H v (toDP p) := by
  obtain ⟨t, ra, rfl, h1, h2, _⟩ := h
  exact dp_pr h1 h2
theorem fresh {H H' : Hp} {p : Addr} (s : Same H H') (h : H' p = none) : H p = none := by
  cases e : H p with
  | none => rfl
  | some o => rw [s _ _ e] at h; cases h
theorem dp_all {K : PySem.W.Frag} {N : Addr → Prop} {H : Hp} {wt : Wts} {fs : List V} {L : Lv} (h : Paired (fun v d => IsVal K N H (endV wt d) v) fs L) : DpAll K H fs ((L.map (endV wt)).map toDP) := by
  induction h with
  | nil => exact .nil
  | cons a _ ih => exact .cons a.dp ih
theorem imm_ext {H : Hp} {d : Addr} {φ : Heap → Prop} {o : HO} (h : H d = some (.ext φ)) : Imm H (upd H d o) :=
  ⟨fun c xs e => by rw [upd_ne (fun z => by subst z; rw [h] at e; cases e)]; exact e, fun c o' u _ e => by rw [upd_ne (fun z => by subst z; rw [h] at e; cases e)]; exact e⟩
theorem imm_unl {H : Hp} {d : Addr} {od : Obj} {φ : Heap → Prop} {o : HO} (h : H d = some (.frz od (.ext φ))) : Imm H (upd H d o) :=
  ⟨fun c xs e => by rw [upd_ne (fun z => by subst z; rw [h] at e; cases e)]; exact e, fun c o' u k e => by
    rw [upd_ne (fun z => by subst z; rw [h] at e; cases e; rcases k with ⟨_, k⟩ | ⟨_, k⟩ <;> cases k)]; exact e⟩
section
variable {P : Program} {w : World} {K : PySem.W.Frag} {mg : Str → Option Value} {base : Heap} {f : Addr} {fd : FuncData}
/-- what worst leans on -/
structure WorstCo (K : PySem.W.Frag) (w : World) (mg : Str → Option Value) (C : Addr) where
  {dS dM fA fB fC fD fE fH f1 f2 f3 f4 f5 f6 f7 f8 f9 f10 f11 f12 f13 : Addr}
  {fdA fdB fdC fdD fdE fdH fd1 fd2 fd3 fd4 fd5 fd6 fd7 fd8 fd9 fd10 fd11 fd12 fd13 : FuncData}
  T : Nms mg
  B : Tab K w mg dS dM
  Cn : Cns mg
  Cr : CnsR mg
  hW : ∃ t, mg "MOST_WEIGHT" = some (.int 9 t)
  HC : HouseC K C
  KC_House : ClassD K mg "House" C fH
  D_House___init__ : Mf K C "__init__" "House.__init__" s_House___init__ p_House___init__ fH fdH
  D_is_guesser : Df K mg "is_guesser" s_is_guesser p_is_guesser fA fdA
  D_need_guesser : Df K mg "need_guesser" s_need_guesser p_need_guesser fB fdB
  D_need_setting : Df K mg "need_setting" s_need_setting p_need_setting fC fdC
  D_need_weights : Df K mg "need_weights" s_need_weights p_need_weights fD fdD
  D_need_rows : Df K mg "need_rows" s_need_rows p_need_rows fE fdE
  D_laid : Df K mg "laid" s_laid p_laid f1 fd1
  D_come : Df K mg "come" s_come p_come f2 fd2
  D_asked : Df K mg "asked" s_asked p_asked f3 fd3
  D_started : Df K mg "started" s_started p_started f4 fd4
  D_strided : Df K mg "strided" s_strided p_strided f5 fd5
  D_paired : Df K mg "paired" s_paired p_paired f6 fd6
  D_stepped : Df K mg "stepped" s_stepped p_stepped f7 fd7
  D_gone_on : Df K mg "gone_on" s_gone_on p_gone_on f8 fd8
  D_first_state : Df K mg "first_state" s_first_state p_first_state f9 fd9
  D_begun : Df K mg "begun" s_begun p_begun f10 fd10
  D_turn_cost : Df K mg "turn_cost" s_turn_cost p_turn_cost f11 fd11
  D_both_behind : Df K mg "both_behind" s_both_behind p_both_behind f12 fd12
  D_idle_in : Df K mg "idle_in" s_idle_in p_idle_in f13 fd13
def spWorst (K : PySem.W.Frag) : Sp := fun vs H Q _ => ∃ (sa wp : Addr) (v1 v2 : V) (s : Stg) (g1 g2 : G) (wt : Wts) (n k : Nat), vs = [.ref sa, v1, v2, .ref wp, .int ((n : Nat) : Int), .int ((k : Nat) : Int)] ∧ IsSet K H sa s ∧ s.Good ∧ IsG K H g1 v1 ∧ good 2 g1 = true ∧ IsG K H g2 v2 ∧ good 2 g2 = true ∧ IsW K H wp wt ∧ wt.Good ∧
  1 ≤ n ∧ n ≤ 4 ∧ n ≤ s.mem.length ∧ k ≤ 7 ∧ n ^ k ≤ 1024 ∧
  ∀ t ra H', Same H H' → H ra = none → SqT K H' t [.int (worstP s g1 g2 wt n k).1, .ref ra] → H' ra = some (.lst ((worstP s g1 g2 wt n k).2.map V.int)) → Q (.ref t) H'
theorem ok_worst {C : Addr} (O : WorstCo K w mg C) (F : Fun K "worst" "worst" s_worst f fd) : FnOk P w K mg base CX0 9 f fd p_worst (spWorst K) := by
  have T := O.T
  have KC_House := O.KC_House
  have D_need_setting := O.D_need_setting
  have D_need_guesser := O.D_need_guesser
  have D_need_weights := O.D_need_weights
  have D_need_rows := O.D_need_rows
  have D_House___init__ := O.D_House___init__
  have D_begun := O.D_begun
  have D_both_behind := O.D_both_behind
  have D_idle_in := O.D_idle_in
  have G_need_setting : FnOk P w K mg base CX0 1 O.fC O.fdC p_need_setting (spNeedSet K) := ok_need_setting T O.Cn D_need_setting.F
  have G_need_guesser : FnOk P w K mg base CX0 6 O.fB O.fdB p_need_guesser (spNeedG K) := ok_need_guesser T O.B O.D_is_guesser D_need_guesser
  have G_need_weights : FnOk P w K mg base CX0 1 O.fD O.fdD p_need_weights (spNW K) := ok_need_weights T O.hW D_need_weights.F
  have G_need_rows : FnOk P w K mg base CX0 1 O.fE O.fdE p_need_rows spNR := ok_need_rows T O.Cr D_need_rows.F
  have G_House___init__ : FnOk P w K mg base CX0 1 O.fH O.fdH p_House___init__ (spHouse K C) := ok_House___init__ T O.HC D_House___init__.F
  have G_begun : FnOk P w K mg base CX0 5 O.f10 O.fd10 p_begun (spBegun K) := ok_begun T O.D_first_state D_begun.F
  have G_both_behind : FnOk P w K mg base CX0 7 O.f12 O.fd12 p_both_behind (spBB K C) := ok_both_behind T O.HC O.D_laid O.D_come O.D_asked O.D_started O.D_strided O.D_paired O.D_stepped O.D_gone_on O.D_turn_cost D_both_behind.F
  have G_idle_in : FnOk P w K mg base CX0 1 O.f13 O.fd13 p_idle_in (spIdle K) := ok_idle_in T D_idle_in.F
  refine F.ok sc_worst (fun vs H Q E h => ?_) (fun cdv A outer s H vs Q E hr h => ?_)
  · obtain ⟨sa, wp, v1, v2, s, g1, g2, wt, n, k, rfl, _⟩ := h
    rfl
  obtain ⟨sa, wp, v1, v2, s, g1, g2, wt, n, k, rfl, hS, gS, hG1, gd1, hG2, gd2, hw, gw, n1, n4, nm, k7, nk, q⟩ := h
  refine ⟨_, (pss_cons (ps_expr (pe_call G_need_setting (hr.mono (by first | decide | omega)) (by rfl) D_need_setting.m D_need_setting.F.kp D_need_setting.b .nil pass0 (pa_cons (pv 0) pa_nil)))
  (pss_cons (ps_expr (pe_call G_need_guesser (hr.mono (by first | decide | omega)) (by rfl) D_need_guesser.m D_need_guesser.F.kp D_need_guesser.b .nil pass0 (pa_cons (pv 1) pa_nil)))
  (pss_cons (ps_expr (pe_call G_need_guesser (hr.mono (by first | decide | omega)) (by rfl) D_need_guesser.m D_need_guesser.F.kp D_need_guesser.b .nil pass0 (pa_cons (pv 2) pa_nil)))
  (pss_cons (ps_expr (pe_call G_need_weights (hr.mono (by first | decide | omega)) (by rfl) D_need_weights.m D_need_weights.F.kp D_need_weights.b .nil pass0 (pa_cons (pv 3) pa_nil)))
  (pss_cons (ps_expr (pe_call G_need_rows (hr.mono (by first | decide | omega)) (by rfl) D_need_rows.m D_need_rows.F.kp D_need_rows.b .nil pass0 (pa_cons (pe_callB call_len_seq (by rfl) T.n_len (by decide +kernel) (pa_cons (pe_ix ix_tup (pv 0) pe_int (fun _ _ => rfl)) pa_nil)) (pa_cons (pv 4) (pa_cons (pv 5) pa_nil)))))
  (pss_cons (ps_set (i := 6) sc_worst.nd rfl (Or.inl rfl) (pe_make KC_House.M G_House___init__ (hr.mono (by first | decide | omega)) (by rfl) KC_House.g D_House___init__.b .nil pass0 (pa_cons (pv 0) pa_nil)))
  (pss_cons (ps_set (i := 7) sc_worst.nd rfl (Or.inl rfl) (pe_tup (pa_cons (pv 1) (pa_cons (pv 2) pa_nil))))
  (pss_cons (ps_set (i := 8) sc_worst.nd rfl (Or.inl rfl) (pe_ndispK (P := P) (w := w) (K := K) (hn_of hr.units) (pe_tup (pa_cons (pe_call G_begun (hr.mono (by first | decide | omega)) (by rfl) D_begun.m D_begun.F.kp D_begun.b .nil pass0 (pa_cons (pv 1) pa_nil)) (pa_cons (pe_call G_begun (hr.mono (by first | decide | omega)) (by rfl) D_begun.m D_begun.F.kp D_begun.b .nil pass0 (pa_cons (pv 2) pa_nil)) pa_nil))) (pe_tup (pa_cons pe_int (pa_cons (pe_lst pa_nil) pa_nil)))))
  (pss_cons (ps_for PassesOwn.never rfl (pi_range1 rfl T.n_range (pa_cons (pv 5) pa_nil)) (pg_name (i := 9) sc_worst.nd rfl (Or.inl rfl))
    (pss_cons (ps_set (i := 10) sc_worst.nd rfl (Or.inl rfl) (pe_nnewK (P := P) (w := w)))
    (pss_cons (ps_lock (ps_for PassesOwn.never rfl (pi_keysNK (P := P) (w := w) (pv 8)) (pg_name (i := 11) sc_worst.nd rfl (Or.inl rfl))
      (pss_cons (ps_asg (pe_ngetK (P := P) (w := w) (K := K) (hn_of hr.units) (pv 8) (pv 11) (fun _ _ => rfl)) (pg_tup rfl (pgs_cons (pg_name (i := 12) sc_worst.nd rfl (Or.inl rfl)) (pgs_cons (pg_name (i := 13) sc_worst.nd rfl (Or.inl rfl)) pgs_nil))))
      (pss_one (ps_for PassesOwn.never rfl (pi_range1 rfl T.n_range (pa_cons (pv 4) pa_nil)) (pg_name (i := 14) sc_worst.nd rfl (Or.inl rfl))
        (pss_cons (ps_asg (pe_call G_both_behind (hr.mono (by first | decide | omega)) (by rfl) D_both_behind.m D_both_behind.F.kp D_both_behind.b .nil pass0 (pa_cons (pv 6) (pa_cons (pv 7) (pa_cons (pv 11) (pa_cons (pv 14) (pa_cons (pv 3) pa_nil)))))) (pg_tup rfl (pgs_cons (pg_name (i := 15) sc_worst.nd rfl (Or.inl rfl)) (pgs_cons (pg_name (i := 16) sc_worst.nd rfl (Or.inl rfl)) pgs_nil))))
        (pss_cons (ps_set (i := 17) sc_worst.nd rfl (Or.inl rfl) (pe_tup (pa_cons (pe_op op_sub (pe_op op_sub pe_int (pv 12)) (pv 16)) (pa_cons (pe_op op_cat (pv 13) (pe_lst (pa_cons (pv 14) pa_nil))) pa_nil))))
        (pss_one (ps_if (PW.pt (pw_or (pt_cmp (pc_nnotinK (P := P) (w := w) (K := K) (hn_of hr.units) (pv 15) (pv 10)) rfl) (pw_or1 (pt_cmpR (op_ltDK (K := K) (hn_of hr.units)) (pv 17) (pe_tup (pa_cons (pe_op op_sub pe_int (pe_ix ix_tup (pe_ngetK (P := P) (w := w) (K := K) (hn_of hr.units) (pv 10) (pv 15) (fun _ _ => rfl)) pe_int (fun _ _ => rfl))) (pa_cons (pe_ix ix_tup (pe_ngetK (P := P) (w := w) (K := K) (hn_of hr.units) (pv 10) (pv 15) (fun _ _ => rfl)) pe_int (fun _ _ => rfl)) pa_nil))) (nomark _)))))
          (pss_one (ps_nputK (P := P) (w := w) (K := K) (hn_of hr.units) (pv 10) (pv 15) (pe_tup (pa_cons (pe_op op_add (pv 12) (pv 16)) (pa_cons (pe_ix ix_tup (pv 17) pe_int (fun _ _ => rfl)) pa_nil))) rfl))
          (pss_nil))))))))))
    (pss_one (ps_set (i := 8) sc_worst.nd rfl (Or.inl rfl) (pv 10))))))
  (pss_cons (ps_set (i := 18) sc_worst.nd rfl (Or.inl rfl) (pe_lst pa_nil))
  (pss_cons (ps_lock (ps_for PassesOwn.never rfl (pi_keysNK (P := P) (w := w) (pv 8)) (pg_name (i := 11) sc_worst.nd rfl (Or.inl rfl))
    (pss_cons (ps_asg (pe_ngetK (P := P) (w := w) (K := K) (hn_of hr.units) (pv 8) (pv 11) (fun _ _ => rfl)) (pg_tup rfl (pgs_cons (pg_name (i := 12) sc_worst.nd rfl (Or.inl rfl)) (pgs_cons (pg_name (i := 13) sc_worst.nd rfl (Or.inl rfl)) pgs_nil))))
    (pss_cons (ps_set (i := 12) sc_worst.nd rfl (Or.inl rfl) (pe_op op_add (pv 12) (pe_op op_mul (pe_op op_sub (pe_call G_idle_in (hr.mono (by first | decide | omega)) (by rfl) D_idle_in.m D_idle_in.F.kp D_idle_in.b .nil pass0 (pa_cons (pe_ix ix_tup (pv 11) pe_int (fun _ _ => rfl)) pa_nil)) (pe_call G_idle_in (hr.mono (by first | decide | omega)) (by rfl) D_idle_in.m D_idle_in.F.kp D_idle_in.b .nil pass0 (pa_cons (pe_ix ix_tup (pv 11) pe_int (fun _ _ => rfl)) pa_nil))) (pe_ix ix_tup (pv 3) pe_int (fun _ _ => rfl)))))
    (pss_one (ps_expr (pe_bm PySem.F.plainAttrs_list PySem.F.slot_list_append PySem.F.type_list_append mt_append (pv 18) (pa_cons (pe_tup (pa_cons (pe_op op_sub pe_int (pv 12)) (pa_cons (pv 13) pa_nil))) pa_nil))))))))
  (pss_cons (ps_set (i := 19) sc_worst.nd rfl (Or.inl rfl) (pe_callB (cr_minDK (K := K) rfl (hn_of hr.units)) (by rfl) T.n_min (by decide +kernel) (pa_cons (pv 18) pa_nil)))
  (pss_one (ps_ret (pe_tup (pa_cons (pe_op op_sub pe_int (pe_ix ix_tup (pv 19) pe_int (fun _ _ => rfl))) (pa_cons (pe_ix ix_tup (pv 19) pe_int (fun _ _ => rfl)) pa_nil))))))))))))))))), ?_⟩
  and_intros
  refine ⟨sa, s, rfl, hS, gS, fun H1 s1 => ?_⟩
  and_intros
  refine ⟨v1, g1, rfl, hG1.same s1, good_up gd1, fun H2 s2 => ?_⟩
  have s12 := s1.trans s2
  and_intros
  refine ⟨v2, g2, rfl, hG2.same s12, good_up gd2, fun H3 s3 => ?_⟩
  have s13 := s12.trans s3
  and_intros
  refine ⟨wp, wt, rfl, same_t s13 hw, gw, fun H4 s4 => ?_⟩
  have s14 := s13.trans s4
  obtain ⟨m, m1, m2⟩ := hS.imm (Imm.same s14)
  refine ⟨_, rfl, _, _, _, _, rfl, rfl, m1, atI_nat (j := 0) rfl, _, _, rfl, .inr m2, _, rfl, _, rfl, ?_⟩
  refine ⟨_, n, k, rfl, n1, n4, by rw [List.length_map]; omega, k7, nk, ?_⟩
  refine ⟨_, rfl, ?_⟩
  intro x dx nx ndx nex
  have sB : Same H4 (upd (upd H4 dx (.own x)) x (.ins C dx [])) := fun b o e => by
    rw [upd_ne (ne_of_none e nx), upd_ne (ne_of_none e ndx)]
    exact e
  refine ⟨x, sa, dx, s, rfl, upd_same, hS.imm (Imm.same (s14.trans sB)), fun H5 s5 hh => ?_⟩
  have s15 := s14.trans (sameX_same sB s5 nx)
  refine ⟨rfl, ?_⟩
  have hh5 : IsH C H5 x ((s.mem.length : Nat) : Int) s.rm s.lt s.ms := hh
  refine ⟨_, rfl, _, rfl, ?_⟩
  refine ⟨sz_2, fun gp ngp => ?_⟩
  have s16 := s15.trans (same_upd (o := .tup [v1, v2]) ngp)
  have hh6 := hh5.same (same_upd (o := .tup [v1, v2]) ngp)
  have egp : SqT K (upd H5 gp (.tup [v1, v2])) gp [v1, v2] := sqt upd_same
  generalize upd H5 gp (.tup [v1, v2]) = Hb at s16 hh6 egp ⊢
  refine fun lv nlv => ?_
  have t1 : Same Hb (upd Hb lv (oN P w lv [])) := same_upd nlv
  have el1 : (upd Hb lv (oN P w lv [])) lv = some (oN P w lv []) := upd_same
  generalize upd Hb lv (oN P w lv []) = Hc at t1 el1 ⊢
  refine ⟨_, rfl, ?_⟩
  refine ⟨v1, g1, rfl, (hG1.same s16).same t1, good_up gd1, fun b1 Hd t2 j1 => ?_⟩
  refine ⟨_, rfl, ?_⟩
  refine ⟨v2, g2, rfl, ((hG2.same s16).same t1).same t2, good_up gd2, fun b2 He t3 j2 => ?_⟩
  refine ⟨sz_2, fun kp nkp => ?_⟩
  have t4 := ((t1.trans t2).trans t3).trans (same_upd (o := .tup [.ref b1, .ref b2]) nkp)
  have j3 : IsPr K (upd He kp (.tup [.ref b1, .ref b2])) kp (st0 g1, st0 g2) := ⟨b1, b2, sqt upd_same, j1.imm (Imm.same (t3.trans (same_upd nkp))), j2.imm (Imm.same (same_upd nkp))⟩
  have el2 := (same_upd (o := .tup [.ref b1, .ref b2]) nkp) _ _ (t3 _ _ (t2 _ _ el1))
  generalize upd He kp (.tup [.ref b1, .ref b2]) = Hf at t4 j3 el2 ⊢
  refine ⟨Nat.zero_le _, fun ra0 nra0 => ?_⟩
  refine ⟨sz_2, fun tv0 ntv0 => ?_⟩
  have t5 := same_upd (o := .lst []) nra0
  have t6 := same_upd (o := .tup [.int 0, .ref ra0]) ntv0
  have ev0 : IsVal K (NN H) (upd (upd Hf ra0 (.lst [])) tv0 (.tup [.int 0, .ref ra0])) (0, []) (.ref tv0) := ⟨tv0, ra0, rfl, sqt upd_same, t6 _ _ upd_same, fresh (s16.trans (t4)) nra0⟩
  have j4 := j3.imm (Imm.same (t5.trans t6))
  have el3 := t6 _ _ (t5 _ _ el2)
  have t7 := t4.trans (t5.trans t6)
  generalize upd (upd Hf ra0 (.lst [])) tv0 (.tup [.int 0, .ref ra0]) = Hg at ev0 j4 el3 t7 ⊢
  have kd0 : (kP (st0 g1, st0 g2)).depth ≤ 8 := kP_depth gd1 (fit_first gd1) gd2 (fit_first gd2)
  refine ⟨kp, kP (st0 g1, st0 g2), rfl, el3, j4.ky, kd0, ?_⟩
  have ne1 : ∀ ys, Hg lv ≠ some (.lst ys) := fun ys z => by rw [el3] at z; cases z
  have im1 : Imm Hg (upd Hg lv (oN P w lv [(kP (st0 g1, st0 g2), kp, .ref tv0)])) := imm_ext el3
  have lv0 : LvE K (NN H) (upd Hg lv (oN P w lv [(kP (st0 g1, st0 g2), kp, .ref tv0)])) (lvl (cfgOf s g1) (cfgOf s g2) wt n 0) [(kP (st0 g1, st0 g2), kp, .ref tv0)] :=
    .cons ⟨rfl, j4.imm im1, ev0.x SameX.upd im1 ne1⟩ .nil
  have t8 : Same Hb (upd Hg lv (oN P w lv [(kP (st0 g1, st0 g2), kp, .ref tv0)])) := same_mut t7 nlv
  have el4 : (upd Hg lv (oN P w lv [(kP (st0 g1, st0 g2), kp, .ref tv0)])) lv = some (oN P w lv [(kP (st0 g1, st0 g2), kp, .ref tv0)]) := upd_same
  generalize upd Hg lv (oN P w lv [(kP (st0 g1, st0 g2), kp, .ref tv0)]) = Hh at lv0 t8 el4 ⊢
  refine ⟨_, rfl, _, rfl, by omega, by omega, ?_⟩
  rw [show (((k : Nat) : Int)).toNat = k from Int.toNat_natCast _]
  refine for_range (lo := 0) (n := k) (fun i σ H' => ∃ lv xs y9 y10 y11 y12 y13 y14 y15 y16 y17 y18 y19, σ = [some (.ref sa), some v1, some v2, some (.ref wp), some (.int ((n : Nat) : Int)), some (.int ((k : Nat) : Int)), some (.ref x), some (.ref gp), some (.ref lv), y9, y10, y11, y12, y13, y14, y15, y16, y17, y18, y19] ∧ Hb lv = none ∧ Same Hb H' ∧
    H' lv = some (oN P w lv xs) ∧ LvE K (NN H) H' (lvl (cfgOf s g1) (cfgOf s g2) wt n i) xs)
    ⟨lv, _, none, none, none, none, none, none, none, none, none, none, none, rfl, nlv, t8, el4, lv0⟩ (fun i σ H' hi h => ?_) (fun σ H' h => ?_)
  · clear lv0 t8 el4 nlv t1 t2 t3 t4 t5 t6 t7 el1 el2 el3 ev0 j1 j2 j3 j4 kd0 ne1 im1 nkp nra0 ntv0
    clear lv
    obtain ⟨lv, xs, y9, y10, y11, y12, y13, y14, y15, y16, y17, y18, y19, rfl, nlv, u1, el, hl⟩ := h
    have hik : n ^ i ≤ n ^ k := Nat.pow_le_pow_right n1 (by omega)
    have Ll := lvl_len (cfgOf s g1) (cfgOf s g2) wt n i
    have Lo := lvl_ok s g1 g2 wt n i
    have Ln := lvl_nd (cfgOf s g1) (cfgOf s g2) wt n i
    have Ls : lvl (cfgOf s g1) (cfgOf s g2) wt n (i + 1) = (candsOf (cfgOf s g1) (cfgOf s g2) wt n (lvl (cfgOf s g1) (cfgOf s g2) wt n i)).foldl relax [] := rfl
    generalize lvl (cfgOf s g1) (cfgOf s g2) wt n i = L at hl Ll Lo Ln Ls
    have Lsz : L.length * n ≤ 1024 * 4 := Nat.mul_le_mul (by omega) n4
    have Lf := Lo.fit gS nm gd1 gd2
    refine fun pb npb => ?_
    have npb0 := fresh u1 npb
    have nlp : lv ≠ pb := fun z => by subst z; rw [el] at npb; cases npb
    have u2 : Same H' (upd H' pb (oN P w pb [])) := same_upd npb
    have el2 := u2 _ _ el
    have ep : (upd H' pb (oN P w pb [])) pb = some (oN P w pb []) := upd_same
    have hl2 := hl.same u2
    have u12 := u1.trans u2
    generalize upd H' pb (oN P w pb []) = H1 at u2 el2 ep hl2 u12 ⊢
    refine ⟨lv, _, el2, True.intro, fun od => ?_⟩
    have u4 : Same Hb (upd H1 lv (.frz od (oN P w lv xs))) := same_mut u12 nlv
    have hl3 := hl2.x (SameX.upd (o := .frz od (oN P w lv xs))) (imm_ext el2) (fun ys z => by rw [el2] at z; cases z)
    have el3 : (upd H1 lv (.frz od (oN P w lv xs))) lv = some (.frz od (oN P w lv xs)) := upd_same
    have ep3 : (upd H1 lv (.frz od (oN P w lv xs))) pb = some (oN P w pb []) := by rw [upd_ne nlp.symm]; exact ep
    generalize upd H1 lv (.frz od (oN P w lv xs)) = H2 at u4 hl3 el3 ep3 ⊢
    refine ⟨_, rfl, lv, od, xs, rfl, el3, ?_⟩
    refine for_it walk_keysN (fun j σ H' => ∃ ys y11 y12 y13 y14 y15 y16 y17, σ = [some (.ref sa), some v1, some v2, some (.ref wp), some (.int ((n : Nat) : Int)), some (.int ((k : Nat) : Int)), some (.ref x), some (.ref gp), some (.ref lv), some (.int (0 + ((i : Nat) : Int))), some (.ref pb), y11, y12, y13, y14, y15, y16, y17, y18, y19] ∧ Same Hb H' ∧
      H' lv = some (.frz od (oN P w lv xs)) ∧ LvE K (NN H) H' L xs ∧ H' pb = some (oN P w pb ys) ∧ LvE K (NN H) H' ((candsOf (cfgOf s g1) (cfgOf s g2) wt n (L.take j)).foldl relax []) ys)
      ⟨[], y11, y12, y13, y14, y15, y16, y17, rfl, u4, el3, hl3, ep3, .nil⟩ (fun j σ H' _ h => ?_) (fun j x0 σ H' H'' hj h y => ?_) (fun σ H' h => ?_)
    · obtain ⟨ys, y11, y12, y13, y14, y15, y16, y17, rfl, u5, el5, _⟩ := h
      exact el5
    · obtain ⟨ys, y11, y12, y13, y14, y15, y16, y17, rfl, u5, el5, hl5, ep5, hb5⟩ := h
      obtain ⟨rfl, kk, v, b, hx, rfl⟩ := y
      obtain ⟨e, v', he, rfl, jb, ha, tv, ra, rfl, hv1, hv2, hv3⟩ := hl5.get Ln hx
      refine ⟨_, rfl, _, rfl, lv, b, kP e.1, xs, _, rfl, rfl, .inr ⟨od, el5⟩, hl5.ks gd1 gd2 Lf, jb.ky, kP_depth gd1 (Lf e (List.mem_of_getElem? he)).1.ft gd2 (Lf e (List.mem_of_getElem? he)).2.ft, ha, ?_⟩
      refine ⟨tv, _, rfl, hv1, rfl, _, _, rfl, _, _, rfl, rfl, ?_⟩
      refine ⟨_, rfl, _, rfl, by omega, by omega, ?_⟩
      rw [show (((n : Nat) : Int)).toNat = n from Int.toNat_natCast _]
      refine for_range (lo := 0) (n := n) (fun m σ H' => ∃ ys y14 y15 y16 y17, σ = [some (.ref sa), some v1, some v2, some (.ref wp), some (.int ((n : Nat) : Int)), some (.int ((k : Nat) : Int)), some (.ref x), some (.ref gp), some (.ref lv), some (.int (0 + ((i : Nat) : Int))), some (.ref pb), some (.ref b), some (.int e.2.1), some (.ref ra), y14, y15, y16, y17, y18, y19] ∧ Same Hb H' ∧
        H' lv = some (.frz od (oN P w lv xs)) ∧ LvE K (NN H) H' L xs ∧ H' pb = some (oN P w pb ys) ∧ LvE K (NN H) H' (part (cfgOf s g1) (cfgOf s g2) wt n L j e m) ys ∧ IsPr K H' b e.1 ∧ H' ra = some (.lst (e.2.2.map V.int)))
        ⟨ys, y14, y15, y16, y17, rfl, u5, el5, hl5, ep5, by rw [part_zero]; exact hb5, jb, hv2⟩ (fun m σ H' hm h => ?_) (fun σ H' h => ?_)
      · clear hl5 ep5 hb5 jb hv1 hv2 el5 u5 ha hx hl3 el3 ep3 u4 hl2 u12 ep el2 u2 npb hl el u1 ys y14 y15 y16 y17
        obtain ⟨ys, y14, y15, y16, y17, rfl, u5, el5, hl5, ep5, hb5, jb, hv2⟩ := h
        have Le := Lf e (List.mem_of_getElem? he)
        have Po := part_ok Lo he m
        have Pf := Po.fit gS nm gd1 gd2
        have Pl := part_len (cfgOf s g1) (cfgOf s g2) wt n L j e m
        have Pn := part_next (cfgOf s g1) (cfgOf s g2) wt L j e hm
        have Pn1 := (part_ok Lo he (m + 1)).fit gS nm gd1 gd2
        have e7 : e.2.2.length = i := Lo.len e (List.mem_of_getElem? he)
        and_intros
        refine ⟨x, gp, b, wp, v1, v2, s, g1, g2, _, e.1, i, wt, rfl, hh6.same u5, gS, same_t u5 egp, (hG1.same s16).same u5, good_up gd1, (hG2.same s16).same u5, good_up gd2, jb, Le.1, Le.2, by omega, same_t (s16.trans u5) hw, gw, fun t b2 H3 u6 ht jp => ?_⟩
        generalize hc : candOf (cfgOf s g1) (cfgOf s g2) wt e (0 + ((m : Nat) : Int)) = c at Pn
        have hc1 : c.1 = ((goC (cfgOf s g1) e.1.1 (0 + ((m : Nat) : Int))).1, (goC (cfgOf s g2) e.1.2 (0 + ((m : Nat) : Int))).1) := by rw [← hc]; rfl
        have hc2 : c.2 = (e.2.1 + (turnC (goC (cfgOf s g1) e.1.1 (0 + ((m : Nat) : Int))).2 wt - turnC (goC (cfgOf s g2) e.1.2 (0 + ((m : Nat) : Int))).2 wt), e.2.2 ++ [0 + ((m : Nat) : Int)]) := by rw [← hc]; rfl
        rw [← hc1] at jp
        generalize turnC (goC (cfgOf s g1) e.1.1 (0 + ((m : Nat) : Int))).2 wt - turnC (goC (cfgOf s g2) e.1.2 (0 + ((m : Nat) : Int))).2 wt = far at hc2 ht ⊢
        clear hc hc1
        refine ⟨t, _, rfl, ht, rfl, _, _, rfl, _, _, rfl, rfl, ?_⟩
        refine ⟨_, rfl, _, _, rfl, rfl, _, rfl, _, _, rfl, rfl, ?_⟩
        refine ⟨_, rfl, _, rfl, sz_1, fun l1 nl1 => ?_⟩
        have w1 := same_upd (o := .lst [.int (0 + ((m : Nat) : Int))]) nl1
        have hra3 := w1 _ _ (u6 _ _ hv2)
        refine ⟨ra, l1, _, _, rfl, rfl, hra3, upd_same, by rw [List.length_map]; exact sz (by show _ + 1 ≤ 1000000; omega), fun r2 nr2 => ?_⟩
        refine ⟨sz_2, fun ct nct => ?_⟩
        have w2 := same_upd (o := .lst (e.2.2.map V.int ++ [.int (0 + ((m : Nat) : Int))])) nr2
        have w3 := same_upd (o := .tup [.int (0 - e.2.1 - far), .ref r2]) nct
        have u7 := (u6.trans w1).trans (w2.trans w3)
        have hct : SqT K _ ct [.int (0 - e.2.1 - far), .ref r2] := sqt (upd_same (H := upd (upd H3 l1 (.lst [.int (0 + ((m : Nat) : Int))])) r2 (.lst (e.2.2.map V.int ++ [.int (0 + ((m : Nat) : Int))]))))
        have hr2 := w3 _ _ upd_same
        have nr2' : H r2 = none := fresh (s16.trans (u5.trans (u6.trans w1))) nr2
        have jp6 := jp.imm (Imm.same (w1.trans (w2.trans w3)))
        generalize upd (upd (upd H3 l1 (.lst [.int (0 + ((m : Nat) : Int))])) r2 (.lst (e.2.2.map V.int ++ [.int (0 + ((m : Nat) : Int))]))) ct (.tup [.int (0 - e.2.1 - far), .ref r2]) = H6 at u7 hct hr2 jp6 ⊢
        have hr2 : H6 r2 = some (.lst ((e.2.2 ++ [0 + ((m : Nat) : Int)]).map V.int)) := by rw [List.map_append]; exact hr2
        have el6 := u7 _ _ el5
        have ep6 := u7 _ _ ep5
        have hl6 := hl5.same u7
        have hb6 := hb5.same u7
        have jb6 := jb.imm (Imm.same u7)
        have hv6 := u7 _ _ hv2
        have u8 := u5.trans u7
        clear el5 ep5 hl5 hb5 jb hv2 u5 u6 u7 w1 w2 w3 jp ht hra3 nl1 nct nr2
        have cd : (kP c.1).depth ≤ 8 := by
          have : c.1 ∈ (part (cfgOf s g1) (cfgOf s g2) wt n L j e (m + 1)).map (·.1) := by rw [Pn]; exact relax_mem _ _
          obtain ⟨d, hd, z⟩ := List.mem_map.mp this
          rw [← z]
          exact kP_depth gd1 (Pn1 d hd).1.ft gd2 (Pn1 d hd).2.ft
        have szb : ys.length < sizeLine := by rw [← Paired.length hb6]; exact szl (by omega)
        have ngc : (0 - e.2.1 - far, e.2.2 ++ [0 + ((m : Nat) : Int)]) = ngV c.2 := by rw [hc2]; exact Prod.ext (by show _ = 0 - (e.2.1 + far); omega) rfl
        -- the stored entry
        have fin : ∀ (H7 : Hp) (tv2 : Addr), Same H6 H7 → H7 tv2 = none → relax (part (cfgOf s g1) (cfgOf s g2) wt n L j e m) c = lvPut (part (cfgOf s g1) (cfgOf s g2) wt n L j e m) c.1 c.2 →
            H7 pb = some (oN P w pb ys) ∧ (upd H7 tv2 (.tup [.int (e.2.1 + far), .ref r2])) pb = some (oN P w pb ys) ∧ KsN K (upd H7 tv2 (.tup [.int (e.2.1 + far), .ref r2])) ys ∧ KyN K (upd H7 tv2 (.tup [.int (e.2.1 + far), .ref r2])) (kP c.1) (.ref b2) ∧
            (Same Hb (upd (upd H7 tv2 (.tup [.int (e.2.1 + far), .ref r2])) pb (oN P w pb (putN ys (kP c.1) b2 (.ref tv2))))) ∧
            (upd (upd H7 tv2 (.tup [.int (e.2.1 + far), .ref r2])) pb (oN P w pb (putN ys (kP c.1) b2 (.ref tv2)))) lv = some (.frz od (oN P w lv xs)) ∧
            LvE K (NN H) (upd (upd H7 tv2 (.tup [.int (e.2.1 + far), .ref r2])) pb (oN P w pb (putN ys (kP c.1) b2 (.ref tv2)))) L xs ∧
            LvE K (NN H) (upd (upd H7 tv2 (.tup [.int (e.2.1 + far), .ref r2])) pb (oN P w pb (putN ys (kP c.1) b2 (.ref tv2)))) (part (cfgOf s g1) (cfgOf s g2) wt n L j e (m + 1)) (putN ys (kP c.1) b2 (.ref tv2)) ∧
            IsPr K (upd (upd H7 tv2 (.tup [.int (e.2.1 + far), .ref r2])) pb (oN P w pb (putN ys (kP c.1) b2 (.ref tv2)))) b e.1 ∧
            (upd (upd H7 tv2 (.tup [.int (e.2.1 + far), .ref r2])) pb (oN P w pb (putN ys (kP c.1) b2 (.ref tv2)))) ra = some (.lst (e.2.2.map V.int)) := by
          intro H7 tv2 x1 nx hr
          have x2 := same_upd (o := .tup [.int (e.2.1 + far), .ref r2]) nx
          have x3 := x1.trans x2
          have ep7 := x3 _ _ ep6
          have ne7 : ∀ zs, (upd H7 tv2 (.tup [.int (e.2.1 + far), .ref r2])) pb ≠ some (.lst zs) := fun zs z => by rw [ep7] at z; cases z
          have im7 : Imm (upd H7 tv2 (.tup [.int (e.2.1 + far), .ref r2])) (upd (upd H7 tv2 (.tup [.int (e.2.1 + far), .ref r2])) pb (oN P w pb (putN ys (kP c.1) b2 (.ref tv2)))) := imm_ext ep7
          have hv : IsVal K (NN H) (upd H7 tv2 (.tup [.int (e.2.1 + far), .ref r2])) c.2 (.ref tv2) := by
            rw [hc2]
            exact ⟨tv2, r2, rfl, sqt upd_same, x3 _ _ hr2, nr2'⟩
          refine ⟨x1 _ _ ep6, ep7, (hb6.same x3).ks gd1 gd2 Pf, (jp6.imm (Imm.same x3)).ky, same_mut (u8.trans x3) npb0, ?_, (hl6.same x3).x SameX.upd im7 ne7, ?_, (jb6.imm (Imm.same x3)).imm im7, ?_⟩
          · rw [upd_ne nlp]; exact x3 _ _ el6
          · rw [Pn, hr]
            exact ((hb6.same x3).x SameX.upd im7 ne7).put ((jp6.imm (Imm.same x3)).imm im7) (hv.x SameX.upd im7 ne7)
          · rw [upd_ne (fun z => by subst z; exact ne7 _ (x3 _ _ hv6))]; exact x3 _ _ hv6
        refine ⟨_, rfl, _, rfl, pb, b2, kP c.1, ys, rfl, rfl, .inl ep6, hb6.ks gd1 gd2 Pf, jp6.ky, cd, ?_⟩
        rcases hb6.at_ c.1 with ⟨q1, q2⟩ | ⟨o, v2', q1, q2, q3⟩
        · rw [q2]
          refine ⟨_, rfl, ?_⟩
          refine iteB rfl (iteB rfl ?_)
          refine ⟨_, rfl, _, rfl, _, _, rfl, rfl, _, rfl, _, _, _, _, rfl, rfl, hct, atI_nat (j := 1) rfl, sz_2, fun tv2 ntv2 => ?_⟩
          obtain ⟨f0, f1, f2, f3, f4, f5, f6, f7, f8, f9⟩ := fin H6 tv2 (Same.refl _) ntv2 (by unfold relax; rw [q1])
          refine ⟨_, rfl, _, rfl, pb, b2, kP c.1, ys, rfl, rfl, f1, f2, f3, cd, szb, ?_⟩
          exact ⟨putN ys (kP c.1) b2 (.ref tv2), _, _, _, _, rfl, f4, f5, f6, upd_same, f7, f8, f9⟩
        · rw [q2]
          refine ⟨_, rfl, ?_⟩
          refine iteB0 rfl ?_
          obtain ⟨tq, rq, rfl, hq1, hq2, _⟩ := q3
          refine ⟨_, rfl, _, rfl, _, rfl, pb, b2, kP c.1, ys, _, rfl, rfl, .inl ep6, hb6.ks gd1 gd2 Pf, jp6.ky, cd, q2, ?_⟩
          refine ⟨_, _, _, _, rfl, rfl, hq1, atI_nat (j := 0) rfl, _, _, rfl, rfl, ?_⟩
          refine ⟨_, rfl, _, rfl, pb, b2, kP c.1, ys, _, rfl, rfl, .inl ep6, hb6.ks gd1 gd2 Pf, jp6.ky, cd, q2, ?_⟩
          refine ⟨_, _, _, _, rfl, rfl, hq1, atI_nat (j := 1) rfl, sz_2, fun oq noq => ?_⟩
          have x1 := same_upd (o := .tup [.int (0 - o.1), .ref rq]) noq
          have dq : Dp K (upd H6 oq (.tup [.int (0 - o.1), .ref rq])) (.ref oq) (toDP (ngV o)) := dp_pr (p := ngV o) (sqt upd_same) (x1 _ _ hq2)
          have dc : Dp K (upd H6 oq (.tup [.int (0 - o.1), .ref rq])) (.ref ct) (toDP (ngV c.2)) := by
            rw [← ngc]
            exact dp_pr (p := (0 - e.2.1 - far, e.2.2 ++ [0 + ((m : Nat) : Int)])) (same_t x1 hct) (x1 _ _ hr2)
          generalize upd H6 oq (.tup [.int (0 - o.1), .ref rq]) = H7 at x1 dq dc ⊢
          refine ⟨ngV c.2, ngV o, dc, dq, _, rfl, ?_⟩
          cases hlt : PySem.W.DatumOrd.lt (ngV c.2) (ngV o) with
          | true =>
            refine iteB rfl ?_
            refine ⟨_, rfl, _, rfl, _, _, rfl, rfl, _, rfl, _, _, _, _, rfl, rfl, same_t x1 hct, atI_nat (j := 1) rfl, sz_2, fun tv2 ntv2 => ?_⟩
            obtain ⟨f0, f1, f2, f3, f4, f5, f6, f7, f8, f9⟩ := fin H7 tv2 x1 ntv2 (by unfold relax; rw [q1]; exact if_pos hlt)
            refine ⟨_, rfl, _, rfl, pb, b2, kP c.1, ys, rfl, rfl, f1, f2, f3, cd, szb, ?_⟩
            exact ⟨putN ys (kP c.1) b2 (.ref tv2), _, _, _, _, rfl, f4, f5, f6, upd_same, f7, f8, f9⟩
          | false =>
            refine iteB0 rfl ?_
            refine ⟨ys, _, _, _, _, rfl, u8.trans x1, x1 _ _ el6, hl6.same x1, x1 _ _ ep6, ?_, jb6.imm (Imm.same x1), x1 _ _ hv6⟩
            rw [Pn, show relax (part (cfgOf s g1) (cfgOf s g2) wt n L j e m) c = part (cfgOf s g1) (cfgOf s g2) wt n L j e m from by unfold relax; rw [q1]; exact if_neg (fun z => Bool.noConfusion (hlt.symm.trans z))]
            exact hb6.same x1
      · obtain ⟨ys, y14, y15, y16, y17, rfl, u5, el5, hl5, ep5, hb5, jb, hv2⟩ := h
        rw [part_end _ _ _ _ _ he] at hb5
        exact ⟨ys, _, _, _, _, _, _, _, rfl, u5, el5, hl5, ep5, hb5⟩
    · obtain ⟨ys, y11, y12, y13, y14, y15, y16, y17, rfl, u5, el5, hl5, ep5, hb5⟩ := h
      refine ⟨el5, _, rfl, pb, ys, _, _, _, _, _, _, _, _, _, _, _, rfl, npb0, same_mut u5 nlv, by rw [upd_ne nlp.symm]; exact ep5, ?_⟩
      have : L.take xs.length = L := List.take_of_length_le (by rw [Paired.length hl5]; exact Nat.le_refl _)
      rw [this, ← Ls] at hb5
      exact hb5.x SameX.upd (imm_unl el5) (fun zs z => by rw [el5] at z; cases z)
  · clear lv0 t8 el4 nlv t1 t2 t3 t4 t5 t6 t7 el1 el2 el3 ev0 j1 j2 j3 j4 kd0 ne1 im1 nkp nra0 ntv0
    clear lv
    obtain ⟨lv, xs, y9, y10, y11, y12, y13, y14, y15, y16, y17, y18, y19, rfl, nlv, u1, el, hl⟩ := h
    have Ll := lvl_len (cfgOf s g1) (cfgOf s g2) wt n k
    have Lo := lvl_ok s g1 g2 wt n k
    have Ln := lvl_nd (cfgOf s g1) (cfgOf s g2) wt n k
    have We := worst_eq (cfgOf s g1) (cfgOf s g2) wt n k
    have Lne : lvl (cfgOf s g1) (cfgOf s g2) wt n k ≠ [] := lvl_ne _ _ _ n1 k
    generalize lvl (cfgOf s g1) (cfgOf s g2) wt n k = L at hl Ll Lo Ln We Lne
    have Lf := Lo.fit gS nm gd1 gd2
    refine ⟨Nat.zero_le _, fun F nF => ?_⟩
    have nF0 := fresh u1 nF
    have nlF : lv ≠ F := fun z => by subst z; rw [el] at nF; cases nF
    have u2 : Same H' (upd H' F (.lst [])) := same_upd nF
    have el2 := u2 _ _ el
    have eF : (upd H' F (.lst [])) F = some (.lst []) := upd_same
    have hl2 : LvE K (fun r => H r = none ∧ r ≠ F) (upd H' F (.lst [])) L xs := Paired.mapP hl fun _ _ z => ⟨z.1, z.2.1.imm (Imm.same u2), let ⟨t0, r0, z1, z2, z3, z4⟩ := z.2.2; ⟨t0, r0, z1, same_t u2 z2, u2 _ _ z3, z4, fun q => by subst q; rw [z3] at nF; cases nF⟩⟩
    have u12 := u1.trans u2
    have hF0 : H F = none := fresh s16 nF0
    generalize upd H' F (.lst []) = H1 at u2 el2 eF hl2 u12 ⊢
    refine ⟨lv, _, el2, True.intro, fun od => ?_⟩
    have u4 : Same Hb (upd H1 lv (.frz od (oN P w lv xs))) := same_mut u12 nlv
    have hl3 := hl2.x (SameX.upd (o := .frz od (oN P w lv xs))) (imm_ext el2) (fun ys z => by rw [el2] at z; cases z)
    have el3 : (upd H1 lv (.frz od (oN P w lv xs))) lv = some (.frz od (oN P w lv xs)) := upd_same
    have eF3 : (upd H1 lv (.frz od (oN P w lv xs))) F = some (.lst []) := by rw [upd_ne nlF.symm]; exact eF
    generalize upd H1 lv (.frz od (oN P w lv xs)) = H2 at u4 hl3 el3 eF3 ⊢
    refine ⟨_, rfl, lv, od, xs, rfl, el3, ?_⟩
    refine for_it walk_keysN (fun j σ H' => ∃ y11 y12 y13 fs, σ = [some (.ref sa), some v1, some v2, some (.ref wp), some (.int ((n : Nat) : Int)), some (.int ((k : Nat) : Int)), some (.ref x), some (.ref gp), some (.ref lv), y9, y10, y11, y12, y13, y14, y15, y16, y17, some (.ref F), y19] ∧ Same Hb H' ∧
      H' lv = some (.frz od (oN P w lv xs)) ∧ LvE K (fun r => H r = none ∧ r ≠ F) H' L xs ∧ H' F = some (.lst fs) ∧ Paired (fun v d => IsVal K (fun r => H r = none ∧ r ≠ F) H' (endV wt d) v) fs (L.take j))
      ⟨y11, y12, y13, [], rfl, u4, el3, hl3, eF3, .nil⟩ (fun j σ H' _ h => ?_) (fun j x0 σ H' H'' hj h y => ?_) (fun σ H' h => ?_)
    · obtain ⟨y11, y12, y13, fs, rfl, u5, el5, _⟩ := h
      exact el5
    · obtain ⟨y11, y12, y13, fs, rfl, u5, el5, hl5, eF5, pf⟩ := h
      obtain ⟨rfl, kk, v, b, hx, rfl⟩ := y
      obtain ⟨e, v', he, rfl, jb, ha, tv, ra, rfl, hv1, hv2, hv3⟩ := hl5.get Ln hx
      have hm := List.mem_of_getElem? he
      refine ⟨_, rfl, _, rfl, lv, b, kP e.1, xs, _, rfl, rfl, .inr ⟨od, el5⟩, hl5.ks gd1 gd2 Lf, jb.ky, kP_depth gd1 (Lf e hm).1.ft gd2 (Lf e hm).2.ft, ha, ?_⟩
      refine ⟨tv, _, rfl, hv1, rfl, _, _, rfl, _, _, rfl, rfl, ?_⟩
      obtain ⟨b1, b2, jt, k1, k2⟩ := jb
      have szs : ∀ (g : G) (r : RSt), OkR s g k r → r.1.length ≤ 10000 ∧ r.2.1.length ≤ 10000 := fun g r o => by
        have l1 := o.iv.l1
        have l2 := o.iv.l2
        have r2 := gS.r2
        have w2 := gS.w2
        exact ⟨by omega, by omega⟩
      refine ⟨_, rfl, _, rfl, _, _, _, _, rfl, rfl, jt, atI_nat (j := 0) rfl, ?_⟩
      refine ⟨b1, e.1.1, rfl, k1, (szs g1 _ (Lf e hm).1).1, (szs g1 _ (Lf e hm).1).2, fun H4 x4 => ?_⟩
      refine ⟨_, rfl, _, _, _, _, rfl, rfl, same_t x4 jt, atI_nat (j := 1) rfl, ?_⟩
      refine ⟨b2, e.1.2, rfl, k2.imm (Imm.same x4), (szs g2 _ (Lf e hm).2).1, (szs g2 _ (Lf e hm).2).2, fun H5 x5 => ?_⟩
      have x45 := x4.trans x5
      refine ⟨_, _, rfl, rfl, _, rfl, _, _, _, _, rfl, rfl, same_t ((s16.trans u5).trans x45) hw, atI_nat (j := 2) rfl, ?_⟩
      have gw3 := gw.2.2
      refine ⟨_, _, rfl, rfl, .inr (by omega), _, _, rfl, rfl, ?_⟩
      have eF6 := x45 _ _ eF5
      refine ⟨_, rfl, .inl ⟨rfl, _, sql eF6⟩, _, rfl, _, _, rfl, rfl, _, rfl, sz_2, fun T nT => ?_⟩
      have x6 := same_upd (o := .tup [.int (0 - (e.2.1 + (((idleN e.1.1 : Nat) : Int) - ((idleN e.1.2 : Nat) : Int)) * wt.c)), .ref ra]) nT
      have eF7 := x6 _ _ eF6
      have x46 := x45.trans x6
      have hlf : fs.length ≤ 1024 := by rw [Paired.length pf, List.length_take]; omega
      refine ⟨_, _, _, rfl, rfl, eF7, szl (by omega), ?_⟩
      have hv : IsVal K (fun r => H r = none ∧ r ≠ F) (upd H5 T (.tup [.int (0 - (e.2.1 + (((idleN e.1.1 : Nat) : Int) - ((idleN e.1.2 : Nat) : Int)) * wt.c)), .ref ra])) (endV wt e) (.ref T) := ⟨T, ra, rfl, sqt upd_same, x46 _ _ hv2, hv3⟩
      have u7 := u5.trans x46
      have el7 := x46 _ _ el5
      have hl7 := hl5.same x46
      have pf7 : Paired (fun v d => IsVal K (fun r => H r = none ∧ r ≠ F) (upd H5 T (.tup [.int (0 - (e.2.1 + (((idleN e.1.1 : Nat) : Int) - ((idleN e.1.2 : Nat) : Int)) * wt.c)), .ref ra])) (endV wt d) v) fs (L.take j) := Paired.mapP pf fun _ _ z => z.same x46
      generalize upd H5 T (.tup [.int (0 - (e.2.1 + (((idleN e.1.1 : Nat) : Int) - ((idleN e.1.2 : Nat) : Int)) * wt.c)), .ref ra]) = H7 at hv u7 el7 hl7 pf7 eF7 ⊢
      have nF8 : ∀ (v : V) (d : Int × List Int), IsVal K (fun r => H r = none ∧ r ≠ F) H7 d v → IsVal K (fun r => H r = none ∧ r ≠ F) (upd H7 F (.lst (fs ++ [.ref T]))) d v := fun v d z => by
        obtain ⟨t0, r0, z1, z2, z3, z4⟩ := z
        exact ⟨t0, r0, z1, (Imm.upd ⟨_, eF7⟩).t z2, by rw [upd_ne z4.2]; exact z3, z4⟩
      refine ⟨_, _, _, fs ++ [.ref T], rfl, same_mut u7 nF0, by rw [upd_ne nlF]; exact el7, ?_, upd_same, ?_⟩
      · exact Paired.mapP hl7 fun _ _ z => ⟨z.1, z.2.1.imm (Imm.upd ⟨_, eF7⟩), nF8 _ _ z.2.2⟩
      · rw [List.take_add_one, he]
        exact Paired.snoc (Paired.mapP pf7 fun _ _ z => nF8 _ _ z) (nF8 _ _ hv)
    · obtain ⟨y11, y12, y13, fs, rfl, u5, el5, hl5, eF5, pf⟩ := h
      refine ⟨el5, ?_⟩
      have : L.take xs.length = L := List.take_of_length_le (by rw [Paired.length hl5]; exact Nat.le_refl _)
      rw [this] at pf
      have eF6 : (upd H' lv (oN P w lv xs)) F = some (.lst fs) := by rw [upd_ne nlF.symm]; exact eF5
      have pf6 : Paired (fun v d => IsVal K (fun r => H r = none ∧ r ≠ F) (upd H' lv (oN P w lv xs)) (endV wt d) v) fs L := Paired.mapP pf fun _ _ z => z.x SameX.upd (imm_unl el5) (fun zs q => by rw [el5] at q; cases q)
      have u6 : Same Hb (upd H' lv (oN P w lv xs)) := same_mut u5 nlv
      generalize upd H' lv (oN P w lv xs) = H6 at eF6 pf6 u6 ⊢
      cases hx : L.map (endV wt) with
      | nil => exact absurd (List.map_eq_nil_iff.mp hx) Lne
      | cons y0 ts =>
        have We := We y0 ts hx
        refine ⟨_, rfl, F, fs, y0, ts, rfl, sql eF6, ?_, fun v i0 hv hi => ?_⟩
        · rw [← hx]
          exact dp_all pf6
        · rw [← hx, List.getElem?_map] at hi
          obtain ⟨d, hd, ed⟩ := Option.map_eq_some_iff.mp hi
          obtain ⟨tq, rq, rfl, hq1, hq2, hq3⟩ := paired_to pf6 hv hd
          rw [ed] at hq1 hq2
          refine ⟨_, rfl, _, _, _, _, rfl, rfl, hq1, atI_nat (j := 0) rfl, _, _, rfl, rfl, ?_⟩
          refine ⟨_, rfl, _, _, _, _, rfl, rfl, hq1, atI_nat (j := 1) rfl, sz_2, fun tr ntr => ?_⟩
          have x9 := same_upd (o := .tup [.int (0 - (PySem.W.minOf y0 ts).1), .ref rq]) ntr
          refine q tr rq _ ((s16.trans u6).trans x9) hq3.1 ?_ ?_
          · unfold worstP
            rw [We]
            exact sqt upd_same
          · unfold worstP
            rw [We]
            exact x9 _ _ hq2
end
end St

namespace St
open PySem PySem.Spec PyProof.Rows L2
section
variable {P : Program} {w : World} {K : PySem.W.Frag} {mg : Str → Option Value} {base : Heap} {f CA CB CW : Addr} {fd : FuncData}
def spWorstX (K : PySem.W.Frag) (CA : Addr) : Sp := fun vs H Q E => ∃ (sa wp : Addr) (v1 v2 : V) (s : Stg) (g1 g2 : G) (ws : List Int) (n k : Int), vs = [.ref sa, v1, v2, .ref wp, .int n, .int k] ∧ IsSet K H sa s ∧ s.Good ∧ IsG K H g1 v1 ∧ good 2 g1 = true ∧ IsG K H g2 v2 ∧ good 2 g2 = true ∧ SqT K H wp (ws.map V.int) ∧ ws.length ≤ 100 ∧
  (GoodW ws → GoodR ((s.mem.length : Nat) : Int) n k → ∀ u H', Same H H' → Q u H') ∧ (¬ (GoodW ws ∧ GoodR ((s.mem.length : Nat) : Int) n k) → errP CA H E)
theorem okX_worst {C : Addr} (O : WorstCo K w mg C) (Er : ErrCo K mg CA CB CW) (F : Fun K "worst" "worst" s_worst f fd) : FnOk P w K mg base (L2.CX P w) 10 f fd p_worst (spWorstX K CA) := by
  have T := O.T
  have KC_House := O.KC_House
  have D_need_setting := O.D_need_setting
  have D_need_guesser := O.D_need_guesser
  have D_need_weights := O.D_need_weights
  have D_need_rows := O.D_need_rows
  have D_House___init__ := O.D_House___init__
  have D_begun := O.D_begun
  have D_both_behind := O.D_both_behind
  have D_idle_in := O.D_idle_in
  have G_need_setting : FnOk P w K mg base CX0 1 O.fC O.fdC p_need_setting (spNeedSet K) := ok_need_setting T O.Cn D_need_setting.F
  have G_need_guesser : FnOk P w K mg base CX0 6 O.fB O.fdB p_need_guesser (spNeedG K) := ok_need_guesser T O.B O.D_is_guesser D_need_guesser
  have G_need_weights : FnOk P w K mg base (L2.CX P w) 2 O.fD O.fdD p_need_weights (spNWX K CA) := okX_need_weights T O.hW Er.XE_BadAsk Er.XP_BadAsk D_need_weights.F
  have G_need_rows : FnOk P w K mg base (L2.CX P w) 2 O.fE O.fdE p_need_rows (spNRX CA) := okX_need_rows T O.Cr Er.XE_BadAsk Er.XP_BadAsk D_need_rows.F
  have G_House___init__ : FnOk P w K mg base CX0 1 O.fH O.fdH p_House___init__ (spHouse K C) := ok_House___init__ T O.HC D_House___init__.F
  have G_begun : FnOk P w K mg base CX0 5 O.f10 O.fd10 p_begun (spBegun K) := ok_begun T O.D_first_state D_begun.F
  have G_both_behind : FnOk P w K mg base CX0 7 O.f12 O.fd12 p_both_behind (spBB K C) := ok_both_behind T O.HC O.D_laid O.D_come O.D_asked O.D_started O.D_strided O.D_paired O.D_stepped O.D_gone_on O.D_turn_cost D_both_behind.F
  have G_idle_in : FnOk P w K mg base CX0 1 O.f13 O.fd13 p_idle_in (spIdle K) := ok_idle_in T D_idle_in.F
  refine F.okX sc_worst (fun vs H Q E h => ?_) (fun cdv A outer s H vs Q E hr h => ?_)
  · obtain ⟨sa, wp, v1, v2, s, g1, g2, ws, n, k, rfl, _⟩ := h
    rfl
  obtain ⟨sa, wp, v1, v2, s, g1, g2, ws, n, k, rfl, hS, gS, hG1, gd1, hG2, gd2, hw, lw, q, qe⟩ := h
  refine ⟨_, (pss_cons (ps_expr (pe_call G_need_setting (hr.mono (by first | decide | omega)) (by rfl) D_need_setting.m D_need_setting.F.kp D_need_setting.b .nil pass0 (pa_cons (pv 0) pa_nil)))
  (pss_cons (ps_expr (pe_call G_need_guesser (hr.mono (by first | decide | omega)) (by rfl) D_need_guesser.m D_need_guesser.F.kp D_need_guesser.b .nil pass0 (pa_cons (pv 1) pa_nil)))
  (pss_cons (ps_expr (pe_call G_need_guesser (hr.mono (by first | decide | omega)) (by rfl) D_need_guesser.m D_need_guesser.F.kp D_need_guesser.b .nil pass0 (pa_cons (pv 2) pa_nil)))
  (pss_cons (ps_expr (pe_callS G_need_weights (hr.mono (by first | decide | omega)) (by rfl) D_need_weights.m D_need_weights.F.kp D_need_weights.b (fun σ => passAt (takes_of rfl rfl rfl rfl) σ) (pa_cons (pv 3) pa_nil)))
  (pss_cons (ps_expr (pe_callS G_need_rows (hr.mono (by first | decide | omega)) (by rfl) D_need_rows.m D_need_rows.F.kp D_need_rows.b (fun σ => passAt (takes_of rfl rfl rfl rfl) σ) (pa_cons (pe_callB call_len_seq (by rfl) T.n_len (by decide +kernel) (pa_cons (pe_ix ix_tup (pv 0) pe_int (fun _ _ => rfl)) pa_nil)) (pa_cons (pv 4) (pa_cons (pv 5) pa_nil)))))
  (pss_cons (ps_set (i := 6) sc_worst.nd rfl (Or.inl rfl) (pe_make KC_House.M G_House___init__ (hr.mono (by first | decide | omega)) (by rfl) KC_House.g D_House___init__.b .nil pass0 (pa_cons (pv 0) pa_nil)))
  (pss_cons (ps_set (i := 7) sc_worst.nd rfl (Or.inl rfl) (pe_tup (pa_cons (pv 1) (pa_cons (pv 2) pa_nil))))
  (pss_cons (ps_set (i := 8) sc_worst.nd rfl (Or.inl rfl) (pe_ndispK (P := P) (w := w) (K := K) (hn_of hr.units) (pe_tup (pa_cons (pe_call G_begun (hr.mono (by first | decide | omega)) (by rfl) D_begun.m D_begun.F.kp D_begun.b .nil pass0 (pa_cons (pv 1) pa_nil)) (pa_cons (pe_call G_begun (hr.mono (by first | decide | omega)) (by rfl) D_begun.m D_begun.F.kp D_begun.b .nil pass0 (pa_cons (pv 2) pa_nil)) pa_nil))) (pe_tup (pa_cons pe_int (pa_cons (pe_lst pa_nil) pa_nil)))))
  (pss_cons (ps_for (passes_of rfl) rfl (pi_range1 rfl T.n_range (pa_cons (pv 5) pa_nil)) (pg_name (i := 9) sc_worst.nd rfl (Or.inl rfl))
    (pss_cons (ps_set (i := 10) sc_worst.nd rfl (Or.inl rfl) (pe_nnewK (P := P) (w := w)))
    (pss_cons (ps_lock (ps_for (passes_of rfl) rfl (pi_keysNK (P := P) (w := w) (pv 8)) (pg_name (i := 11) sc_worst.nd rfl (Or.inl rfl))
      (pss_cons (ps_asg (pe_ngetK (P := P) (w := w) (K := K) (hn_of hr.units) (pv 8) (pv 11) (fun _ _ => rfl)) (pg_tup rfl (pgs_cons (pg_name (i := 12) sc_worst.nd rfl (Or.inl rfl)) (pgs_cons (pg_name (i := 13) sc_worst.nd rfl (Or.inl rfl)) pgs_nil))))
      (pss_one (ps_for (passes_of rfl) rfl (pi_range1 rfl T.n_range (pa_cons (pv 4) pa_nil)) (pg_name (i := 14) sc_worst.nd rfl (Or.inl rfl))
        (pss_cons (ps_asg (pe_call G_both_behind (hr.mono (by first | decide | omega)) (by rfl) D_both_behind.m D_both_behind.F.kp D_both_behind.b .nil pass0 (pa_cons (pv 6) (pa_cons (pv 7) (pa_cons (pv 11) (pa_cons (pv 14) (pa_cons (pv 3) pa_nil)))))) (pg_tup rfl (pgs_cons (pg_name (i := 15) sc_worst.nd rfl (Or.inl rfl)) (pgs_cons (pg_name (i := 16) sc_worst.nd rfl (Or.inl rfl)) pgs_nil))))
        (pss_cons (ps_set (i := 17) sc_worst.nd rfl (Or.inl rfl) (pe_tup (pa_cons (pe_op op_sub (pe_op op_sub pe_int (pv 12)) (pv 16)) (pa_cons (pe_op op_cat (pv 13) (pe_lst (pa_cons (pv 14) pa_nil))) pa_nil))))
        (pss_one (ps_if (PW.pt (pw_or (pt_cmp (pc_nnotinK (P := P) (w := w) (K := K) (hn_of hr.units) (pv 15) (pv 10)) rfl) (pw_or1 (pt_cmpR (op_ltDK (K := K) (hn_of hr.units)) (pv 17) (pe_tup (pa_cons (pe_op op_sub pe_int (pe_ix ix_tup (pe_ngetK (P := P) (w := w) (K := K) (hn_of hr.units) (pv 10) (pv 15) (fun _ _ => rfl)) pe_int (fun _ _ => rfl))) (pa_cons (pe_ix ix_tup (pe_ngetK (P := P) (w := w) (K := K) (hn_of hr.units) (pv 10) (pv 15) (fun _ _ => rfl)) pe_int (fun _ _ => rfl)) pa_nil))) (nomark _)))))
          (pss_one (ps_nputK (P := P) (w := w) (K := K) (hn_of hr.units) (pv 10) (pv 15) (pe_tup (pa_cons (pe_op op_add (pv 12) (pv 16)) (pa_cons (pe_ix ix_tup (pv 17) pe_int (fun _ _ => rfl)) pa_nil))) rfl))
          (pss_nil))))))))))
    (pss_one (ps_set (i := 8) sc_worst.nd rfl (Or.inl rfl) (pv 10))))))
  (pss_cons (ps_set (i := 18) sc_worst.nd rfl (Or.inl rfl) (pe_lst pa_nil))
  (pss_cons (ps_lock (ps_for (passes_of rfl) rfl (pi_keysNK (P := P) (w := w) (pv 8)) (pg_name (i := 11) sc_worst.nd rfl (Or.inl rfl))
    (pss_cons (ps_asg (pe_ngetK (P := P) (w := w) (K := K) (hn_of hr.units) (pv 8) (pv 11) (fun _ _ => rfl)) (pg_tup rfl (pgs_cons (pg_name (i := 12) sc_worst.nd rfl (Or.inl rfl)) (pgs_cons (pg_name (i := 13) sc_worst.nd rfl (Or.inl rfl)) pgs_nil))))
    (pss_cons (ps_set (i := 12) sc_worst.nd rfl (Or.inl rfl) (pe_op op_add (pv 12) (pe_op op_mul (pe_op op_sub (pe_call G_idle_in (hr.mono (by first | decide | omega)) (by rfl) D_idle_in.m D_idle_in.F.kp D_idle_in.b .nil pass0 (pa_cons (pe_ix ix_tup (pv 11) pe_int (fun _ _ => rfl)) pa_nil)) (pe_call G_idle_in (hr.mono (by first | decide | omega)) (by rfl) D_idle_in.m D_idle_in.F.kp D_idle_in.b .nil pass0 (pa_cons (pe_ix ix_tup (pv 11) pe_int (fun _ _ => rfl)) pa_nil))) (pe_ix ix_tup (pv 3) pe_int (fun _ _ => rfl)))))
    (pss_one (ps_expr (pe_bm PySem.F.plainAttrs_list PySem.F.slot_list_append PySem.F.type_list_append mt_append (pv 18) (pa_cons (pe_tup (pa_cons (pe_op op_sub pe_int (pv 12)) (pa_cons (pv 13) pa_nil))) pa_nil))))))))
  (pss_cons (ps_set (i := 19) sc_worst.nd rfl (Or.inl rfl) (pe_callB (cr_minDK (K := K) rfl (hn_of hr.units)) (by rfl) T.n_min (by decide +kernel) (pa_cons (pv 18) pa_nil)))
  (pss_one (ps_ret (pe_tup (pa_cons (pe_op op_sub pe_int (pe_ix ix_tup (pv 19) pe_int (fun _ _ => rfl))) (pa_cons (pe_ix ix_tup (pv 19) pe_int (fun _ _ => rfl)) pa_nil))))))))))))))))), ?_⟩
  have el : (((s.mem.map V.int).length : Nat) : Int) = ((s.mem.length : Nat) : Int) := by rw [List.length_map]
  refine ⟨_, rfl, sa, s, rfl, hS, gS, fun H1 s1 => ?_⟩
  refine ⟨_, rfl, v1, g1, rfl, hG1.same s1, good_up gd1, fun H2 s2 => ?_⟩
  have s12 := s1.trans s2
  refine ⟨_, rfl, v2, g2, rfl, hG2.same s12, good_up gd2, fun H3 s3 => ?_⟩
  have s13 := s12.trans s3
  refine ⟨_, rfl, wp, ws, rfl, same_t s13 hw, lw, fun ggw H4 s4 => ?_, fun ng => (qe fun g => ng g.1).after s13⟩
  have s14 := s13.trans s4
  have q2 := q ggw
  have qe2 := fun ng : ¬ GoodR ((s.mem.length : Nat) : Int) n k => qe fun g => ng g.2
  clear q qe
  obtain ⟨wt, rfl, gw⟩ := goodW_w ggw
  have hw : IsW K H wp wt := hw
  obtain ⟨m, m1, m2⟩ := hS.imm (Imm.same s14)
  refine ⟨_, rfl, _, _, _, _, rfl, rfl, m1, atI_nat (j := 0) rfl, _, _, rfl, .inr m2, _, rfl, _, rfl, ?_⟩
  refine ⟨_, n, k, rfl, fun gr => ?_, fun ng => (qe2 fun g => ng (by rw [el]; exact g)).after s14⟩
  rw [el] at gr
  have q3 := q2 gr
  clear q2 qe2
  obtain ⟨⟨n1, n4, nm⟩, ⟨k0, k7⟩, nk⟩ := gr
  obtain ⟨n, rfl⟩ : ∃ z : Nat, n = ((z : Nat) : Int) := ⟨n.toNat, by omega⟩
  obtain ⟨k, rfl⟩ : ∃ z : Nat, k = ((z : Nat) : Int) := ⟨k.toNat, by omega⟩
  have n1 : 1 ≤ n := by omega
  have n4 : n ≤ 4 := by omega
  have nm : n ≤ s.mem.length := by omega
  have k7 : k ≤ 7 := by omega
  have nk : n ^ k ≤ 1024 := nk
  refine ⟨_, rfl, ?_⟩
  intro x dx nx ndx nex
  have sB : Same H4 (upd (upd H4 dx (.own x)) x (.ins C dx [])) := fun b o e => by
    rw [upd_ne (ne_of_none e nx), upd_ne (ne_of_none e ndx)]
    exact e
  refine ⟨x, sa, dx, s, rfl, upd_same, hS.imm (Imm.same (s14.trans sB)), fun H5 s5 hh => ?_⟩
  have s15 := s14.trans (sameX_same sB s5 nx)
  refine ⟨rfl, ?_⟩
  have hh5 : IsH C H5 x ((s.mem.length : Nat) : Int) s.rm s.lt s.ms := hh
  refine ⟨_, rfl, _, rfl, ?_⟩
  refine ⟨sz_2, fun gp ngp => ?_⟩
  have s16 := s15.trans (same_upd (o := .tup [v1, v2]) ngp)
  have hh6 := hh5.same (same_upd (o := .tup [v1, v2]) ngp)
  have egp : SqT K (upd H5 gp (.tup [v1, v2])) gp [v1, v2] := sqt upd_same
  generalize upd H5 gp (.tup [v1, v2]) = Hb at s16 hh6 egp ⊢
  refine fun lv nlv => ?_
  have t1 : Same Hb (upd Hb lv (oN P w lv [])) := same_upd nlv
  have el1 : (upd Hb lv (oN P w lv [])) lv = some (oN P w lv []) := upd_same
  generalize upd Hb lv (oN P w lv []) = Hc at t1 el1 ⊢
  refine ⟨_, rfl, ?_⟩
  refine ⟨v1, g1, rfl, (hG1.same s16).same t1, good_up gd1, fun b1 Hd t2 j1 => ?_⟩
  refine ⟨_, rfl, ?_⟩
  refine ⟨v2, g2, rfl, ((hG2.same s16).same t1).same t2, good_up gd2, fun b2 He t3 j2 => ?_⟩
  refine ⟨sz_2, fun kp nkp => ?_⟩
  have t4 := ((t1.trans t2).trans t3).trans (same_upd (o := .tup [.ref b1, .ref b2]) nkp)
  have j3 : IsPr K (upd He kp (.tup [.ref b1, .ref b2])) kp (st0 g1, st0 g2) := ⟨b1, b2, sqt upd_same, j1.imm (Imm.same (t3.trans (same_upd nkp))), j2.imm (Imm.same (same_upd nkp))⟩
  have el2 := (same_upd (o := .tup [.ref b1, .ref b2]) nkp) _ _ (t3 _ _ (t2 _ _ el1))
  generalize upd He kp (.tup [.ref b1, .ref b2]) = Hf at t4 j3 el2 ⊢
  refine ⟨Nat.zero_le _, fun ra0 nra0 => ?_⟩
  refine ⟨sz_2, fun tv0 ntv0 => ?_⟩
  have t5 := same_upd (o := .lst []) nra0
  have t6 := same_upd (o := .tup [.int 0, .ref ra0]) ntv0
  have ev0 : IsVal K (NN H) (upd (upd Hf ra0 (.lst [])) tv0 (.tup [.int 0, .ref ra0])) (0, []) (.ref tv0) := ⟨tv0, ra0, rfl, sqt upd_same, t6 _ _ upd_same, fresh (s16.trans (t4)) nra0⟩
  have j4 := j3.imm (Imm.same (t5.trans t6))
  have el3 := t6 _ _ (t5 _ _ el2)
  have t7 := t4.trans (t5.trans t6)
  generalize upd (upd Hf ra0 (.lst [])) tv0 (.tup [.int 0, .ref ra0]) = Hg at ev0 j4 el3 t7 ⊢
  have kd0 : (kP (st0 g1, st0 g2)).depth ≤ 8 := kP_depth gd1 (fit_first gd1) gd2 (fit_first gd2)
  refine ⟨kp, kP (st0 g1, st0 g2), rfl, el3, j4.ky, kd0, ?_⟩
  have ne1 : ∀ ys, Hg lv ≠ some (.lst ys) := fun ys z => by rw [el3] at z; cases z
  have im1 : Imm Hg (upd Hg lv (oN P w lv [(kP (st0 g1, st0 g2), kp, .ref tv0)])) := imm_ext el3
  have lv0 : LvE K (NN H) (upd Hg lv (oN P w lv [(kP (st0 g1, st0 g2), kp, .ref tv0)])) (lvl (cfgOf s g1) (cfgOf s g2) wt n 0) [(kP (st0 g1, st0 g2), kp, .ref tv0)] :=
    .cons ⟨rfl, j4.imm im1, ev0.x SameX.upd im1 ne1⟩ .nil
  have t8 : Same Hb (upd Hg lv (oN P w lv [(kP (st0 g1, st0 g2), kp, .ref tv0)])) := same_mut t7 nlv
  have el4 : (upd Hg lv (oN P w lv [(kP (st0 g1, st0 g2), kp, .ref tv0)])) lv = some (oN P w lv [(kP (st0 g1, st0 g2), kp, .ref tv0)]) := upd_same
  generalize upd Hg lv (oN P w lv [(kP (st0 g1, st0 g2), kp, .ref tv0)]) = Hh at lv0 t8 el4 ⊢
  refine ⟨_, rfl, _, rfl, by omega, by omega, ?_⟩
  rw [show (((k : Nat) : Int)).toNat = k from Int.toNat_natCast _]
  refine for_range (lo := 0) (n := k) (fun i σ H' => ∃ lv xs y9 y10 y11 y12 y13 y14 y15 y16 y17 y18 y19, σ = [some (.ref sa), some v1, some v2, some (.ref wp), some (.int ((n : Nat) : Int)), some (.int ((k : Nat) : Int)), some (.ref x), some (.ref gp), some (.ref lv), y9, y10, y11, y12, y13, y14, y15, y16, y17, y18, y19] ∧ Hb lv = none ∧ Same Hb H' ∧
    H' lv = some (oN P w lv xs) ∧ LvE K (NN H) H' (lvl (cfgOf s g1) (cfgOf s g2) wt n i) xs)
    ⟨lv, _, none, none, none, none, none, none, none, none, none, none, none, rfl, nlv, t8, el4, lv0⟩ (fun i σ H' hi h => ?_) (fun σ H' h => ?_)
  · clear lv0 t8 el4 nlv t1 t2 t3 t4 t5 t6 t7 el1 el2 el3 ev0 j1 j2 j3 j4 kd0 ne1 im1 nkp nra0 ntv0
    clear lv
    obtain ⟨lv, xs, y9, y10, y11, y12, y13, y14, y15, y16, y17, y18, y19, rfl, nlv, u1, el, hl⟩ := h
    have hik : n ^ i ≤ n ^ k := Nat.pow_le_pow_right n1 (by omega)
    have Ll := lvl_len (cfgOf s g1) (cfgOf s g2) wt n i
    have Lo := lvl_ok s g1 g2 wt n i
    have Ln := lvl_nd (cfgOf s g1) (cfgOf s g2) wt n i
    have Ls : lvl (cfgOf s g1) (cfgOf s g2) wt n (i + 1) = (candsOf (cfgOf s g1) (cfgOf s g2) wt n (lvl (cfgOf s g1) (cfgOf s g2) wt n i)).foldl relax [] := rfl
    generalize lvl (cfgOf s g1) (cfgOf s g2) wt n i = L at hl Ll Lo Ln Ls
    have Lsz : L.length * n ≤ 1024 * 4 := Nat.mul_le_mul (by omega) n4
    have Lf := Lo.fit gS nm gd1 gd2
    refine fun pb npb => ?_
    have npb0 := fresh u1 npb
    have nlp : lv ≠ pb := fun z => by subst z; rw [el] at npb; cases npb
    have u2 : Same H' (upd H' pb (oN P w pb [])) := same_upd npb
    have el2 := u2 _ _ el
    have ep : (upd H' pb (oN P w pb [])) pb = some (oN P w pb []) := upd_same
    have hl2 := hl.same u2
    have u12 := u1.trans u2
    generalize upd H' pb (oN P w pb []) = H1 at u2 el2 ep hl2 u12 ⊢
    refine ⟨lv, _, el2, True.intro, fun od => ?_⟩
    have u4 : Same Hb (upd H1 lv (.frz od (oN P w lv xs))) := same_mut u12 nlv
    have hl3 := hl2.x (SameX.upd (o := .frz od (oN P w lv xs))) (imm_ext el2) (fun ys z => by rw [el2] at z; cases z)
    have el3 : (upd H1 lv (.frz od (oN P w lv xs))) lv = some (.frz od (oN P w lv xs)) := upd_same
    have ep3 : (upd H1 lv (.frz od (oN P w lv xs))) pb = some (oN P w pb []) := by rw [upd_ne nlp.symm]; exact ep
    generalize upd H1 lv (.frz od (oN P w lv xs)) = H2 at u4 hl3 el3 ep3 ⊢
    refine ⟨_, rfl, lv, od, xs, rfl, el3, ?_⟩
    refine for_it walk_keysN (fun j σ H' => ∃ ys y11 y12 y13 y14 y15 y16 y17, σ = [some (.ref sa), some v1, some v2, some (.ref wp), some (.int ((n : Nat) : Int)), some (.int ((k : Nat) : Int)), some (.ref x), some (.ref gp), some (.ref lv), some (.int (0 + ((i : Nat) : Int))), some (.ref pb), y11, y12, y13, y14, y15, y16, y17, y18, y19] ∧ Same Hb H' ∧
      H' lv = some (.frz od (oN P w lv xs)) ∧ LvE K (NN H) H' L xs ∧ H' pb = some (oN P w pb ys) ∧ LvE K (NN H) H' ((candsOf (cfgOf s g1) (cfgOf s g2) wt n (L.take j)).foldl relax []) ys)
      ⟨[], y11, y12, y13, y14, y15, y16, y17, rfl, u4, el3, hl3, ep3, .nil⟩ (fun j σ H' _ h => ?_) (fun j x0 σ H' H'' hj h y => ?_) (fun σ H' h => ?_)
    · obtain ⟨ys, y11, y12, y13, y14, y15, y16, y17, rfl, u5, el5, _⟩ := h
      exact el5
    · obtain ⟨ys, y11, y12, y13, y14, y15, y16, y17, rfl, u5, el5, hl5, ep5, hb5⟩ := h
      obtain ⟨rfl, kk, v, b, hx, rfl⟩ := y
      obtain ⟨e, v', he, rfl, jb, ha, tv, ra, rfl, hv1, hv2, hv3⟩ := hl5.get Ln hx
      refine ⟨_, rfl, _, rfl, lv, b, kP e.1, xs, _, rfl, rfl, .inr ⟨od, el5⟩, hl5.ks gd1 gd2 Lf, jb.ky, kP_depth gd1 (Lf e (List.mem_of_getElem? he)).1.ft gd2 (Lf e (List.mem_of_getElem? he)).2.ft, ha, ?_⟩
      refine ⟨tv, _, rfl, hv1, rfl, _, _, rfl, _, _, rfl, rfl, ?_⟩
      refine ⟨_, rfl, _, rfl, by omega, by omega, ?_⟩
      rw [show (((n : Nat) : Int)).toNat = n from Int.toNat_natCast _]
      refine for_range (lo := 0) (n := n) (fun m σ H' => ∃ ys y14 y15 y16 y17, σ = [some (.ref sa), some v1, some v2, some (.ref wp), some (.int ((n : Nat) : Int)), some (.int ((k : Nat) : Int)), some (.ref x), some (.ref gp), some (.ref lv), some (.int (0 + ((i : Nat) : Int))), some (.ref pb), some (.ref b), some (.int e.2.1), some (.ref ra), y14, y15, y16, y17, y18, y19] ∧ Same Hb H' ∧
        H' lv = some (.frz od (oN P w lv xs)) ∧ LvE K (NN H) H' L xs ∧ H' pb = some (oN P w pb ys) ∧ LvE K (NN H) H' (part (cfgOf s g1) (cfgOf s g2) wt n L j e m) ys ∧ IsPr K H' b e.1 ∧ H' ra = some (.lst (e.2.2.map V.int)))
        ⟨ys, y14, y15, y16, y17, rfl, u5, el5, hl5, ep5, by rw [part_zero]; exact hb5, jb, hv2⟩ (fun m σ H' hm h => ?_) (fun σ H' h => ?_)
      · clear hl5 ep5 hb5 jb hv1 hv2 el5 u5 ha hx hl3 el3 ep3 u4 hl2 u12 ep el2 u2 npb hl el u1 ys y14 y15 y16 y17
        obtain ⟨ys, y14, y15, y16, y17, rfl, u5, el5, hl5, ep5, hb5, jb, hv2⟩ := h
        have Le := Lf e (List.mem_of_getElem? he)
        have Po := part_ok Lo he m
        have Pf := Po.fit gS nm gd1 gd2
        have Pl := part_len (cfgOf s g1) (cfgOf s g2) wt n L j e m
        have Pn := part_next (cfgOf s g1) (cfgOf s g2) wt L j e hm
        have Pn1 := (part_ok Lo he (m + 1)).fit gS nm gd1 gd2
        have e7 : e.2.2.length = i := Lo.len e (List.mem_of_getElem? he)
        and_intros
        refine ⟨x, gp, b, wp, v1, v2, s, g1, g2, _, e.1, i, wt, rfl, hh6.same u5, gS, same_t u5 egp, (hG1.same s16).same u5, good_up gd1, (hG2.same s16).same u5, good_up gd2, jb, Le.1, Le.2, by omega, same_t (s16.trans u5) hw, gw, fun t b2 H3 u6 ht jp => ?_⟩
        generalize hc : candOf (cfgOf s g1) (cfgOf s g2) wt e (0 + ((m : Nat) : Int)) = c at Pn
        have hc1 : c.1 = ((goC (cfgOf s g1) e.1.1 (0 + ((m : Nat) : Int))).1, (goC (cfgOf s g2) e.1.2 (0 + ((m : Nat) : Int))).1) := by rw [← hc]; rfl
        have hc2 : c.2 = (e.2.1 + (turnC (goC (cfgOf s g1) e.1.1 (0 + ((m : Nat) : Int))).2 wt - turnC (goC (cfgOf s g2) e.1.2 (0 + ((m : Nat) : Int))).2 wt), e.2.2 ++ [0 + ((m : Nat) : Int)]) := by rw [← hc]; rfl
        rw [← hc1] at jp
        generalize turnC (goC (cfgOf s g1) e.1.1 (0 + ((m : Nat) : Int))).2 wt - turnC (goC (cfgOf s g2) e.1.2 (0 + ((m : Nat) : Int))).2 wt = far at hc2 ht ⊢
        clear hc hc1
        refine ⟨t, _, rfl, ht, rfl, _, _, rfl, _, _, rfl, rfl, ?_⟩
        refine ⟨_, rfl, _, _, rfl, rfl, _, rfl, _, _, rfl, rfl, ?_⟩
        refine ⟨_, rfl, _, rfl, sz_1, fun l1 nl1 => ?_⟩
        have w1 := same_upd (o := .lst [.int (0 + ((m : Nat) : Int))]) nl1
        have hra3 := w1 _ _ (u6 _ _ hv2)
        refine ⟨ra, l1, _, _, rfl, rfl, hra3, upd_same, by rw [List.length_map]; exact sz (by show _ + 1 ≤ 1000000; omega), fun r2 nr2 => ?_⟩
        refine ⟨sz_2, fun ct nct => ?_⟩
        have w2 := same_upd (o := .lst (e.2.2.map V.int ++ [.int (0 + ((m : Nat) : Int))])) nr2
        have w3 := same_upd (o := .tup [.int (0 - e.2.1 - far), .ref r2]) nct
        have u7 := (u6.trans w1).trans (w2.trans w3)
        have hct : SqT K _ ct [.int (0 - e.2.1 - far), .ref r2] := sqt (upd_same (H := upd (upd H3 l1 (.lst [.int (0 + ((m : Nat) : Int))])) r2 (.lst (e.2.2.map V.int ++ [.int (0 + ((m : Nat) : Int))]))))
        have hr2 := w3 _ _ upd_same
        have nr2' : H r2 = none := fresh (s16.trans (u5.trans (u6.trans w1))) nr2
        have jp6 := jp.imm (Imm.same (w1.trans (w2.trans w3)))
        generalize upd (upd (upd H3 l1 (.lst [.int (0 + ((m : Nat) : Int))])) r2 (.lst (e.2.2.map V.int ++ [.int (0 + ((m : Nat) : Int))]))) ct (.tup [.int (0 - e.2.1 - far), .ref r2]) = H6 at u7 hct hr2 jp6 ⊢
        have hr2 : H6 r2 = some (.lst ((e.2.2 ++ [0 + ((m : Nat) : Int)]).map V.int)) := by rw [List.map_append]; exact hr2
        have el6 := u7 _ _ el5
        have ep6 := u7 _ _ ep5
        have hl6 := hl5.same u7
        have hb6 := hb5.same u7
        have jb6 := jb.imm (Imm.same u7)
        have hv6 := u7 _ _ hv2
        have u8 := u5.trans u7
        clear el5 ep5 hl5 hb5 jb hv2 u5 u6 u7 w1 w2 w3 jp ht hra3 nl1 nct nr2
        have cd : (kP c.1).depth ≤ 8 := by
          have : c.1 ∈ (part (cfgOf s g1) (cfgOf s g2) wt n L j e (m + 1)).map (·.1) := by rw [Pn]; exact relax_mem _ _
          obtain ⟨d, hd, z⟩ := List.mem_map.mp this
          rw [← z]
          exact kP_depth gd1 (Pn1 d hd).1.ft gd2 (Pn1 d hd).2.ft
        have szb : ys.length < sizeLine := by rw [← Paired.length hb6]; exact szl (by omega)
        have ngc : (0 - e.2.1 - far, e.2.2 ++ [0 + ((m : Nat) : Int)]) = ngV c.2 := by rw [hc2]; exact Prod.ext (by show _ = 0 - (e.2.1 + far); omega) rfl
        -- the stored entry
        have fin : ∀ (H7 : Hp) (tv2 : Addr), Same H6 H7 → H7 tv2 = none → relax (part (cfgOf s g1) (cfgOf s g2) wt n L j e m) c = lvPut (part (cfgOf s g1) (cfgOf s g2) wt n L j e m) c.1 c.2 →
            H7 pb = some (oN P w pb ys) ∧ (upd H7 tv2 (.tup [.int (e.2.1 + far), .ref r2])) pb = some (oN P w pb ys) ∧ KsN K (upd H7 tv2 (.tup [.int (e.2.1 + far), .ref r2])) ys ∧ KyN K (upd H7 tv2 (.tup [.int (e.2.1 + far), .ref r2])) (kP c.1) (.ref b2) ∧
            (Same Hb (upd (upd H7 tv2 (.tup [.int (e.2.1 + far), .ref r2])) pb (oN P w pb (putN ys (kP c.1) b2 (.ref tv2))))) ∧
            (upd (upd H7 tv2 (.tup [.int (e.2.1 + far), .ref r2])) pb (oN P w pb (putN ys (kP c.1) b2 (.ref tv2)))) lv = some (.frz od (oN P w lv xs)) ∧
            LvE K (NN H) (upd (upd H7 tv2 (.tup [.int (e.2.1 + far), .ref r2])) pb (oN P w pb (putN ys (kP c.1) b2 (.ref tv2)))) L xs ∧
            LvE K (NN H) (upd (upd H7 tv2 (.tup [.int (e.2.1 + far), .ref r2])) pb (oN P w pb (putN ys (kP c.1) b2 (.ref tv2)))) (part (cfgOf s g1) (cfgOf s g2) wt n L j e (m + 1)) (putN ys (kP c.1) b2 (.ref tv2)) ∧
            IsPr K (upd (upd H7 tv2 (.tup [.int (e.2.1 + far), .ref r2])) pb (oN P w pb (putN ys (kP c.1) b2 (.ref tv2)))) b e.1 ∧
            (upd (upd H7 tv2 (.tup [.int (e.2.1 + far), .ref r2])) pb (oN P w pb (putN ys (kP c.1) b2 (.ref tv2)))) ra = some (.lst (e.2.2.map V.int)) := by
          intro H7 tv2 x1 nx hr
          have x2 := same_upd (o := .tup [.int (e.2.1 + far), .ref r2]) nx
          have x3 := x1.trans x2
          have ep7 := x3 _ _ ep6
          have ne7 : ∀ zs, (upd H7 tv2 (.tup [.int (e.2.1 + far), .ref r2])) pb ≠ some (.lst zs) := fun zs z => by rw [ep7] at z; cases z
          have im7 : Imm (upd H7 tv2 (.tup [.int (e.2.1 + far), .ref r2])) (upd (upd H7 tv2 (.tup [.int (e.2.1 + far), .ref r2])) pb (oN P w pb (putN ys (kP c.1) b2 (.ref tv2)))) := imm_ext ep7
          have hv : IsVal K (NN H) (upd H7 tv2 (.tup [.int (e.2.1 + far), .ref r2])) c.2 (.ref tv2) := by
            rw [hc2]
            exact ⟨tv2, r2, rfl, sqt upd_same, x3 _ _ hr2, nr2'⟩
          refine ⟨x1 _ _ ep6, ep7, (hb6.same x3).ks gd1 gd2 Pf, (jp6.imm (Imm.same x3)).ky, same_mut (u8.trans x3) npb0, ?_, (hl6.same x3).x SameX.upd im7 ne7, ?_, (jb6.imm (Imm.same x3)).imm im7, ?_⟩
          · rw [upd_ne nlp]; exact x3 _ _ el6
          · rw [Pn, hr]
            exact ((hb6.same x3).x SameX.upd im7 ne7).put ((jp6.imm (Imm.same x3)).imm im7) (hv.x SameX.upd im7 ne7)
          · rw [upd_ne (fun z => by subst z; exact ne7 _ (x3 _ _ hv6))]; exact x3 _ _ hv6
        refine ⟨_, rfl, _, rfl, pb, b2, kP c.1, ys, rfl, rfl, .inl ep6, hb6.ks gd1 gd2 Pf, jp6.ky, cd, ?_⟩
        rcases hb6.at_ c.1 with ⟨q1, q2⟩ | ⟨o, v2', q1, q2, q3⟩
        · rw [q2]
          refine ⟨_, rfl, ?_⟩
          refine iteB rfl (iteB rfl ?_)
          refine ⟨_, rfl, _, rfl, _, _, rfl, rfl, _, rfl, _, _, _, _, rfl, rfl, hct, atI_nat (j := 1) rfl, sz_2, fun tv2 ntv2 => ?_⟩
          obtain ⟨f0, f1, f2, f3, f4, f5, f6, f7, f8, f9⟩ := fin H6 tv2 (Same.refl _) ntv2 (by unfold relax; rw [q1])
          refine ⟨_, rfl, _, rfl, pb, b2, kP c.1, ys, rfl, rfl, f1, f2, f3, cd, szb, ?_⟩
          exact ⟨putN ys (kP c.1) b2 (.ref tv2), _, _, _, _, rfl, f4, f5, f6, upd_same, f7, f8, f9⟩
        · rw [q2]
          refine ⟨_, rfl, ?_⟩
          refine iteB0 rfl ?_
          obtain ⟨tq, rq, rfl, hq1, hq2, _⟩ := q3
          refine ⟨_, rfl, _, rfl, _, rfl, pb, b2, kP c.1, ys, _, rfl, rfl, .inl ep6, hb6.ks gd1 gd2 Pf, jp6.ky, cd, q2, ?_⟩
          refine ⟨_, _, _, _, rfl, rfl, hq1, atI_nat (j := 0) rfl, _, _, rfl, rfl, ?_⟩
          refine ⟨_, rfl, _, rfl, pb, b2, kP c.1, ys, _, rfl, rfl, .inl ep6, hb6.ks gd1 gd2 Pf, jp6.ky, cd, q2, ?_⟩
          refine ⟨_, _, _, _, rfl, rfl, hq1, atI_nat (j := 1) rfl, sz_2, fun oq noq => ?_⟩
          have x1 := same_upd (o := .tup [.int (0 - o.1), .ref rq]) noq
          have dq : Dp K (upd H6 oq (.tup [.int (0 - o.1), .ref rq])) (.ref oq) (toDP (ngV o)) := dp_pr (p := ngV o) (sqt upd_same) (x1 _ _ hq2)
          have dc : Dp K (upd H6 oq (.tup [.int (0 - o.1), .ref rq])) (.ref ct) (toDP (ngV c.2)) := by
            rw [← ngc]
            exact dp_pr (p := (0 - e.2.1 - far, e.2.2 ++ [0 + ((m : Nat) : Int)])) (same_t x1 hct) (x1 _ _ hr2)
          generalize upd H6 oq (.tup [.int (0 - o.1), .ref rq]) = H7 at x1 dq dc ⊢
          refine ⟨ngV c.2, ngV o, dc, dq, _, rfl, ?_⟩
          cases hlt : PySem.W.DatumOrd.lt (ngV c.2) (ngV o) with
          | true =>
            refine iteB rfl ?_
            refine ⟨_, rfl, _, rfl, _, _, rfl, rfl, _, rfl, _, _, _, _, rfl, rfl, same_t x1 hct, atI_nat (j := 1) rfl, sz_2, fun tv2 ntv2 => ?_⟩
            obtain ⟨f0, f1, f2, f3, f4, f5, f6, f7, f8, f9⟩ := fin H7 tv2 x1 ntv2 (by unfold relax; rw [q1]; exact if_pos hlt)
            refine ⟨_, rfl, _, rfl, pb, b2, kP c.1, ys, rfl, rfl, f1, f2, f3, cd, szb, ?_⟩
            exact ⟨putN ys (kP c.1) b2 (.ref tv2), _, _, _, _, rfl, f4, f5, f6, upd_same, f7, f8, f9⟩
          | false =>
            refine iteB0 rfl ?_
            refine ⟨ys, _, _, _, _, rfl, u8.trans x1, x1 _ _ el6, hl6.same x1, x1 _ _ ep6, ?_, jb6.imm (Imm.same x1), x1 _ _ hv6⟩
            rw [Pn, show relax (part (cfgOf s g1) (cfgOf s g2) wt n L j e m) c = part (cfgOf s g1) (cfgOf s g2) wt n L j e m from by unfold relax; rw [q1]; exact if_neg (fun z => Bool.noConfusion (hlt.symm.trans z))]
            exact hb6.same x1
      · obtain ⟨ys, y14, y15, y16, y17, rfl, u5, el5, hl5, ep5, hb5, jb, hv2⟩ := h
        rw [part_end _ _ _ _ _ he] at hb5
        exact ⟨ys, _, _, _, _, _, _, _, rfl, u5, el5, hl5, ep5, hb5⟩
    · obtain ⟨ys, y11, y12, y13, y14, y15, y16, y17, rfl, u5, el5, hl5, ep5, hb5⟩ := h
      refine ⟨el5, _, rfl, pb, ys, _, _, _, _, _, _, _, _, _, _, _, rfl, npb0, same_mut u5 nlv, by rw [upd_ne nlp.symm]; exact ep5, ?_⟩
      have : L.take xs.length = L := List.take_of_length_le (by rw [Paired.length hl5]; exact Nat.le_refl _)
      rw [this, ← Ls] at hb5
      exact hb5.x SameX.upd (imm_unl el5) (fun zs z => by rw [el5] at z; cases z)
  · clear lv0 t8 el4 nlv t1 t2 t3 t4 t5 t6 t7 el1 el2 el3 ev0 j1 j2 j3 j4 kd0 ne1 im1 nkp nra0 ntv0
    clear lv
    obtain ⟨lv, xs, y9, y10, y11, y12, y13, y14, y15, y16, y17, y18, y19, rfl, nlv, u1, el, hl⟩ := h
    have Ll := lvl_len (cfgOf s g1) (cfgOf s g2) wt n k
    have Lo := lvl_ok s g1 g2 wt n k
    have Ln := lvl_nd (cfgOf s g1) (cfgOf s g2) wt n k
    have We := worst_eq (cfgOf s g1) (cfgOf s g2) wt n k
    have Lne : lvl (cfgOf s g1) (cfgOf s g2) wt n k ≠ [] := lvl_ne _ _ _ n1 k
    generalize lvl (cfgOf s g1) (cfgOf s g2) wt n k = L at hl Ll Lo Ln We Lne
    have Lf := Lo.fit gS nm gd1 gd2
    refine ⟨Nat.zero_le _, fun F nF => ?_⟩
    have nF0 := fresh u1 nF
    have nlF : lv ≠ F := fun z => by subst z; rw [el] at nF; cases nF
    have u2 : Same H' (upd H' F (.lst [])) := same_upd nF
    have el2 := u2 _ _ el
    have eF : (upd H' F (.lst [])) F = some (.lst []) := upd_same
    have hl2 : LvE K (fun r => H r = none ∧ r ≠ F) (upd H' F (.lst [])) L xs := Paired.mapP hl fun _ _ z => ⟨z.1, z.2.1.imm (Imm.same u2), let ⟨t0, r0, z1, z2, z3, z4⟩ := z.2.2; ⟨t0, r0, z1, same_t u2 z2, u2 _ _ z3, z4, fun q => by subst q; rw [z3] at nF; cases nF⟩⟩
    have u12 := u1.trans u2
    have hF0 : H F = none := fresh s16 nF0
    generalize upd H' F (.lst []) = H1 at u2 el2 eF hl2 u12 ⊢
    refine ⟨lv, _, el2, True.intro, fun od => ?_⟩
    have u4 : Same Hb (upd H1 lv (.frz od (oN P w lv xs))) := same_mut u12 nlv
    have hl3 := hl2.x (SameX.upd (o := .frz od (oN P w lv xs))) (imm_ext el2) (fun ys z => by rw [el2] at z; cases z)
    have el3 : (upd H1 lv (.frz od (oN P w lv xs))) lv = some (.frz od (oN P w lv xs)) := upd_same
    have eF3 : (upd H1 lv (.frz od (oN P w lv xs))) F = some (.lst []) := by rw [upd_ne nlF.symm]; exact eF
    generalize upd H1 lv (.frz od (oN P w lv xs)) = H2 at u4 hl3 el3 eF3 ⊢
    refine ⟨_, rfl, lv, od, xs, rfl, el3, ?_⟩
    refine for_it walk_keysN (fun j σ H' => ∃ y11 y12 y13 fs, σ = [some (.ref sa), some v1, some v2, some (.ref wp), some (.int ((n : Nat) : Int)), some (.int ((k : Nat) : Int)), some (.ref x), some (.ref gp), some (.ref lv), y9, y10, y11, y12, y13, y14, y15, y16, y17, some (.ref F), y19] ∧ Same Hb H' ∧
      H' lv = some (.frz od (oN P w lv xs)) ∧ LvE K (fun r => H r = none ∧ r ≠ F) H' L xs ∧ H' F = some (.lst fs) ∧ Paired (fun v d => IsVal K (fun r => H r = none ∧ r ≠ F) H' (endV wt d) v) fs (L.take j))
      ⟨y11, y12, y13, [], rfl, u4, el3, hl3, eF3, .nil⟩ (fun j σ H' _ h => ?_) (fun j x0 σ H' H'' hj h y => ?_) (fun σ H' h => ?_)
    · obtain ⟨y11, y12, y13, fs, rfl, u5, el5, _⟩ := h
      exact el5
    · obtain ⟨y11, y12, y13, fs, rfl, u5, el5, hl5, eF5, pf⟩ := h
      obtain ⟨rfl, kk, v, b, hx, rfl⟩ := y
      obtain ⟨e, v', he, rfl, jb, ha, tv, ra, rfl, hv1, hv2, hv3⟩ := hl5.get Ln hx
      have hm := List.mem_of_getElem? he
      refine ⟨_, rfl, _, rfl, lv, b, kP e.1, xs, _, rfl, rfl, .inr ⟨od, el5⟩, hl5.ks gd1 gd2 Lf, jb.ky, kP_depth gd1 (Lf e hm).1.ft gd2 (Lf e hm).2.ft, ha, ?_⟩
      refine ⟨tv, _, rfl, hv1, rfl, _, _, rfl, _, _, rfl, rfl, ?_⟩
      obtain ⟨b1, b2, jt, k1, k2⟩ := jb
      have szs : ∀ (g : G) (r : RSt), OkR s g k r → r.1.length ≤ 10000 ∧ r.2.1.length ≤ 10000 := fun g r o => by
        have l1 := o.iv.l1
        have l2 := o.iv.l2
        have r2 := gS.r2
        have w2 := gS.w2
        exact ⟨by omega, by omega⟩
      refine ⟨_, rfl, _, rfl, _, _, _, _, rfl, rfl, jt, atI_nat (j := 0) rfl, ?_⟩
      refine ⟨b1, e.1.1, rfl, k1, (szs g1 _ (Lf e hm).1).1, (szs g1 _ (Lf e hm).1).2, fun H4 x4 => ?_⟩
      refine ⟨_, rfl, _, _, _, _, rfl, rfl, same_t x4 jt, atI_nat (j := 1) rfl, ?_⟩
      refine ⟨b2, e.1.2, rfl, k2.imm (Imm.same x4), (szs g2 _ (Lf e hm).2).1, (szs g2 _ (Lf e hm).2).2, fun H5 x5 => ?_⟩
      have x45 := x4.trans x5
      refine ⟨_, _, rfl, rfl, _, rfl, _, _, _, _, rfl, rfl, same_t ((s16.trans u5).trans x45) hw, atI_nat (j := 2) rfl, ?_⟩
      have gw3 := gw.2.2
      refine ⟨_, _, rfl, rfl, .inr (by omega), _, _, rfl, rfl, ?_⟩
      have eF6 := x45 _ _ eF5
      refine ⟨_, rfl, .inl ⟨rfl, _, sql eF6⟩, _, rfl, _, _, rfl, rfl, _, rfl, sz_2, fun T nT => ?_⟩
      have x6 := same_upd (o := .tup [.int (0 - (e.2.1 + (((idleN e.1.1 : Nat) : Int) - ((idleN e.1.2 : Nat) : Int)) * wt.c)), .ref ra]) nT
      have eF7 := x6 _ _ eF6
      have x46 := x45.trans x6
      have hlf : fs.length ≤ 1024 := by rw [Paired.length pf, List.length_take]; omega
      refine ⟨_, _, _, rfl, rfl, eF7, szl (by omega), ?_⟩
      have hv : IsVal K (fun r => H r = none ∧ r ≠ F) (upd H5 T (.tup [.int (0 - (e.2.1 + (((idleN e.1.1 : Nat) : Int) - ((idleN e.1.2 : Nat) : Int)) * wt.c)), .ref ra])) (endV wt e) (.ref T) := ⟨T, ra, rfl, sqt upd_same, x46 _ _ hv2, hv3⟩
      have u7 := u5.trans x46
      have el7 := x46 _ _ el5
      have hl7 := hl5.same x46
      have pf7 : Paired (fun v d => IsVal K (fun r => H r = none ∧ r ≠ F) (upd H5 T (.tup [.int (0 - (e.2.1 + (((idleN e.1.1 : Nat) : Int) - ((idleN e.1.2 : Nat) : Int)) * wt.c)), .ref ra])) (endV wt d) v) fs (L.take j) := Paired.mapP pf fun _ _ z => z.same x46
      generalize upd H5 T (.tup [.int (0 - (e.2.1 + (((idleN e.1.1 : Nat) : Int) - ((idleN e.1.2 : Nat) : Int)) * wt.c)), .ref ra]) = H7 at hv u7 el7 hl7 pf7 eF7 ⊢
      have nF8 : ∀ (v : V) (d : Int × List Int), IsVal K (fun r => H r = none ∧ r ≠ F) H7 d v → IsVal K (fun r => H r = none ∧ r ≠ F) (upd H7 F (.lst (fs ++ [.ref T]))) d v := fun v d z => by
        obtain ⟨t0, r0, z1, z2, z3, z4⟩ := z
        exact ⟨t0, r0, z1, (Imm.upd ⟨_, eF7⟩).t z2, by rw [upd_ne z4.2]; exact z3, z4⟩
      refine ⟨_, _, _, fs ++ [.ref T], rfl, same_mut u7 nF0, by rw [upd_ne nlF]; exact el7, ?_, upd_same, ?_⟩
      · exact Paired.mapP hl7 fun _ _ z => ⟨z.1, z.2.1.imm (Imm.upd ⟨_, eF7⟩), nF8 _ _ z.2.2⟩
      · rw [List.take_add_one, he]
        exact Paired.snoc (Paired.mapP pf7 fun _ _ z => nF8 _ _ z) (nF8 _ _ hv)
    · obtain ⟨y11, y12, y13, fs, rfl, u5, el5, hl5, eF5, pf⟩ := h
      refine ⟨el5, ?_⟩
      have : L.take xs.length = L := List.take_of_length_le (by rw [Paired.length hl5]; exact Nat.le_refl _)
      rw [this] at pf
      have eF6 : (upd H' lv (oN P w lv xs)) F = some (.lst fs) := by rw [upd_ne nlF.symm]; exact eF5
      have pf6 : Paired (fun v d => IsVal K (fun r => H r = none ∧ r ≠ F) (upd H' lv (oN P w lv xs)) (endV wt d) v) fs L := Paired.mapP pf fun _ _ z => z.x SameX.upd (imm_unl el5) (fun zs q => by rw [el5] at q; cases q)
      have u6 : Same Hb (upd H' lv (oN P w lv xs)) := same_mut u5 nlv
      generalize upd H' lv (oN P w lv xs) = H6 at eF6 pf6 u6 ⊢
      cases hx : L.map (endV wt) with
      | nil => exact absurd (List.map_eq_nil_iff.mp hx) Lne
      | cons y0 ts =>
        have We := We y0 ts hx
        refine ⟨_, rfl, F, fs, y0, ts, rfl, sql eF6, ?_, fun v i0 hv hi => ?_⟩
        · rw [← hx]
          exact dp_all pf6
        · rw [← hx, List.getElem?_map] at hi
          obtain ⟨d, hd, ed⟩ := Option.map_eq_some_iff.mp hi
          obtain ⟨tq, rq, rfl, hq1, hq2, hq3⟩ := paired_to pf6 hv hd
          rw [ed] at hq1 hq2
          refine ⟨_, rfl, _, _, _, _, rfl, rfl, hq1, atI_nat (j := 0) rfl, _, _, rfl, rfl, ?_⟩
          refine ⟨_, rfl, _, _, _, _, rfl, rfl, hq1, atI_nat (j := 1) rfl, sz_2, fun tr ntr => ?_⟩
          have x9 := same_upd (o := .tup [.int (0 - (PySem.W.minOf y0 ts).1), .ref rq]) ntr
          exact q3 _ _ ((s16.trans u6).trans x9)
end
end St

namespace St
open PySem PySem.Spec PyProof.Rows L2
/-! ### settings and guessers that are none, handed to all that looks at them -/
theorem good_isG : ∀ (g : G) (k : Nat), k ≤ 3 → WfG g → isG (3 - k) g = true → good k g = true
  | .nil, _, _, _, h => by simp [isG] at h
  | .b1 _, _, _, _, h => by simp [isG] at h
  | .b3 _ _ _, _, _, _, h => by simp [isG] at h
  | .both a b, 0, _, _, h => by
    have no : ∀ g : G, isG 4 g = false := fun g => by
      cases g with
      | nil => rfl
      | b1 _ => rfl
      | b3 _ _ _ => rfl
      | both _ _ => rfl
      | leaf s ns =>
        unfold isG
        split
        · rfl
        · simp
    have h : (decide (3 ≤ 3) && (isG 4 a && isG 4 b)) = true := h
    rw [no a] at h
    simp at h
  | .both a b, k + 1, hk, ⟨wa, wb⟩, h => by
    have h : (decide (3 - (k + 1) ≤ 3) && (isG (3 - (k + 1) + 1) a && isG (3 - (k + 1) + 1) b)) = true := h
    rw [show 3 - (k + 1) + 1 = 3 - k by omega] at h
    simp only [Bool.and_eq_true] at h
    show (good k a && good k b) = true
    rw [good_isG a k (by omega) wa h.2.1, good_isG b k (by omega) wb h.2.2]
    rfl
  | .leaf s ns, k, _, ws, h => by
    unfold isG at h
    cases e : sortsL.lookup s with
    | none => rw [e] at h; cases h
    | some m =>
      rw [e] at h
      simp only [Bool.and_eq_true, decide_eq_true_eq] at h
      obtain ⟨⟨h1, _⟩, h2⟩ := h
      rcases sorts_cases e with ⟨rfl, rfl⟩ | ⟨rfl, rfl⟩ | ⟨rfl, rfl⟩ | ⟨rfl, rfl⟩ | ⟨rfl, _⟩
      · have : ns = [] := List.eq_nil_of_length_eq_zero (by omega)
        subst this
        exact good_none k
      · match ns, h1 with
        | [n], _ =>
          have h2 : (decide (1 ≤ n) && decide (n ≤ 3)) = true := h2
          simp only [Bool.and_eq_true, decide_eq_true_eq] at h2
          exact good_next h2.1 h2.2
      · match ns, h1 with
        | [n], _ =>
          have h2 : (decide (1 ≤ n) && decide (n ≤ 3)) = true := h2
          simp only [Bool.and_eq_true, decide_eq_true_eq] at h2
          exact good_stride h2.1 h2.2
      · match ns, h1 with
        | [n], _ =>
          have h2 : (decide (1 ≤ n) && decide (n ≤ 2)) = true := h2
          simp only [Bool.and_eq_true, decide_eq_true_eq] at h2
          exact good_pairs h2.1 h2.2
      · exact absurd rfl ws
section
variable {P : Program} {w : World} {K : PySem.W.Frag} {mg : Str → Option Value} {base : Heap} {k j : Nat} {f : Addr} {fd : FuncData} {ps : List Str} {sp sp' : Sp}
/-- what raises nothing, in a def that may -/
theorem fn_lift (F : FnOk P w K mg base CX0 k f fd ps sp) : FnOk P w K mg base (L2.CX P w) k f fd ps (fun vs H Q _ => ∀ E, sp vs H Q E) :=
  ⟨fun vs H Q E h => F.len vs H Q E (h E), fun A outer s H args us vs Q E hr e0 hb r h => codeAny_mono (F.run A outer s H args us vs Q E hr e0 hb r (h E)) fun r s' hq => by
    cases r with
    | error e => exact False.elim hq
    | ok fl =>
      cases fl with
      | ret u => exact hq
      | next => exact hq
      | brk => exact hq
      | cont => exact hq⟩
theorem fn_or {CX : CXT} (F : FnOk P w K mg base CX k f fd ps sp) (F' : FnOk P w K mg base CX k f fd ps sp') : FnOk P w K mg base CX k f fd ps (fun vs H Q E => sp vs H Q E ∨ sp' vs H Q E) :=
  ⟨fun vs H Q E h => h.elim (F.len vs H Q E) (F'.len vs H Q E), fun A outer s H args us vs Q E hr e0 hb r h => h.elim (F.run A outer s H args us vs Q E hr e0 hb r) (F'.run A outer s H args us vs Q E hr e0 hb r)⟩
theorem fn_up {CX : CXT} (F : FnOk P w K mg base CX k f fd ps sp) (h : k ≤ j) : FnOk P w K mg base CX j f fd ps sp :=
  ⟨F.len, fun A outer s H args us vs Q E hr => F.run A outer s H args us vs Q E (hr.mono h)⟩
end
def spNo : Sp := fun _ _ _ _ => False
theorem fn_no {P : Program} {w : World} {K : PySem.W.Frag} {mg : Str → Option Value} {base : Heap} {CX : CXT} {k : Nat} {f : Addr} {fd : FuncData} {ps : List Str} : FnOk P w K mg base CX k f fd ps spNo := fn_zero fun _ _ _ _ h => h
/-- a setting and a guesser, one of them none, in memory -/
structure Odd (K : PySem.W.Frag) (H : Hp) (b : Addr) (v : V) (s : Stg) (g : G) : Prop where
  set : IsSet K H b s
  ml : s.mem.length ≤ 1000
  gi : IsG K H g v
  wf : WfG g
  no : ¬ (s.Good ∧ isG 0 g = true)
theorem Odd.imm {K : PySem.W.Frag} {H H' : Hp} {b : Addr} {v : V} {s : Stg} {g : G} (h : Odd K H b v s g) (e : Imm H H') : Odd K H' b v s g := ⟨h.set.imm e, h.ml, h.gi.imm e, h.wf, h.no⟩
/-- what is told of them -/
structure Tell (c : EC) (s : Stg) (g : G) (H : Hp) (E : XK) : Prop where
  set : ∀ w, WhyS s w → errF c.S "word" (.str w) H E
  gue : s.Good → isG 0 g = false → errP c.G H E
theorem Tell.after {c : EC} {s : Stg} {g : G} {H H' : Hp} {E : XK} (t : Tell c s g H E) (e : Same H H') : Tell c s g H' E := ⟨fun w h => (t.set w h).after e, fun a b => (t.gue a b).after e⟩
/-- the errors that settings and guessers meet -/
structure ErrSG (K : PySem.W.Frag) (mg : Str → Option Value) (c : EC) (CW : Addr) where
  {fS : Addr}
  {fdS : FuncData}
  WC : WellC K mg CW
  XE_BadSetting : ErrX K mg "BadSetting" c.S CW
  XI_BadSetting : ErrI K "word" c.S fS
  D_BadSetting___init__ : Ef K "BadSetting.__init__" s_BadSetting___init__ p_BadSetting___init__ fS fdS
  XE_BadGuesser : ErrX K mg "BadGuesser" c.G CW
  XP_BadGuesser : ErrP K c.G
  XE_BadAsk : ErrX K mg "BadAsk" c.A CW
  XP_BadAsk : ErrP K c.A
section
variable {P : Program} {w : World} {K : PySem.W.Frag} {mg : Str → Option Value} {base : Heap} {f C CR CW : Addr} {fd : FuncData} {c : EC}
def spAllE (K : PySem.W.Frag) (c : EC) : Sp := fun vs H Q E => ∃ (b : Addr) (v x : V) (s : Stg) (g : G), vs = [.ref b, v, x] ∧ Odd K H b v s g ∧ Tell c s g H E
theorem okE_need_all (N : NeedCo K w mg) (Er : ErrSG K mg c CW) : FnOk P w K mg base (L2.CX P w) 9 N.fF N.fdF p_need_all (spAllE K c) := by
  have D_need_guesser := N.D_need_guesser
  have D_need_setting := N.D_need_setting
  have D_need_row := N.D_need_row
  have T := N.T
  have G_need_setting : FnOk P w K mg base (L2.CX P w) 4 N.fC N.fdC p_need_setting (spNSX K c.S) := okX_need_setting N.T N.Cn Er.WC Er.XE_BadSetting Er.XI_BadSetting Er.D_BadSetting___init__ D_need_setting.F
  have G_need_guesser : FnOk P w K mg base (L2.CX P w) 7 N.fB N.fdB p_need_guesser (spNeedX K c.G) := okX_need_guesser N.T N.B Er.XE_BadGuesser Er.XP_BadGuesser N.D_is_guesser D_need_guesser.F
  have G_need_row : FnOk P w K mg base (L2.CX P w) 4 N.fE N.fdE p_need_row spNo := fn_no
  refine N.D_need_all.F.okX sc_need_all (fun vs H Q E h => ?_) (fun cdv A outer s H vs Q E hr h => ?_)
  · obtain ⟨b, v, x, s, g, rfl, _⟩ := h
    rfl
  obtain ⟨b, v, x, s, g, rfl, o, t⟩ := h
  refine ⟨_, (pss_cons (ps_expr (pe_callS G_need_setting (hr.mono (by first | decide | omega)) (by rfl) D_need_setting.m D_need_setting.F.kp D_need_setting.b (fun σ => passAt (takes_of rfl rfl rfl rfl) σ) (pa_cons (pv 0) pa_nil)))
  (pss_cons (ps_expr (pe_callS G_need_guesser (hr.mono (by first | decide | omega)) (by rfl) D_need_guesser.m D_need_guesser.F.kp D_need_guesser.b (fun σ => passAt (takes_of rfl rfl rfl rfl) σ) (pa_cons (pv 1) pa_nil)))
  (pss_one (ps_expr (pe_callS G_need_row (hr.mono (by first | decide | omega)) (by rfl) D_need_row.m D_need_row.F.kp D_need_row.b (fun σ => passAt (takes_of rfl rfl rfl rfl) σ) (pa_cons (pe_callB call_len_seq (by rfl) T.n_len (by decide +kernel) (pa_cons (pe_ix ix_tup (pv 0) pe_int (fun _ _ => rfl)) pa_nil)) (pa_cons (pv 2) pa_nil))))))), ?_⟩
  refine ⟨_, rfl, b, s, rfl, o.set, o.ml, fun gs H1 s1 => ?_, t.set⟩
  refine ⟨_, rfl, v, g, rfl, o.gi.same s1, o.wf, fun ok => absurd ⟨gs, ok⟩ o.no, fun no => (t.gue gs no).after s1⟩
theorem okE_run (N : NeedCo K w mg) (S : RunCo K mg C CR) (O : CostCo K mg CR) (Er : ErrSG K mg c CW) (F : Fun K "run" "run" s_run f fd) : FnOk P w K mg base (L2.CX P w) 12 f fd p_run (spAllE K c) := by
  have T := S.T
  have KC_Run := S.KC_Run
  have RC := S.RC
  have D_need_all := N.D_need_all
  have D_Run___init__ := S.D_Run___init__
  have D_Run_counts := O.D_Run_counts
  have G_need_all : FnOk P w K mg base (L2.CX P w) 9 N.fF N.fdF p_need_all (spAllE K c) := okE_need_all N Er
  have G_Run___init__ : FnOk P w K mg base CX0 8 S.fI S.fdI p_Run___init__ spNo := fn_no
  have G_Run_counts : FnOk P w K mg base CX0 2 O.f2 O.fd2 p_Run_counts spNo := fn_no
  refine F.okX sc_run (fun vs H Q E h => ?_) (fun cdv A outer s H vs Q E hr h => ?_)
  · obtain ⟨b, v, x, s, g, rfl, _⟩ := h
    rfl
  obtain ⟨b, v, x, s, g, rfl, o, t⟩ := h
  refine ⟨_, (pss_cons (ps_expr (pe_callS G_need_all (hr.mono (by first | decide | omega)) (by rfl) D_need_all.m D_need_all.F.kp D_need_all.b (fun σ => passAt (takes_of rfl rfl rfl rfl) σ) (pa_cons (pv 0) (pa_cons (pv 1) (pa_cons (pv 2) pa_nil)))))
  (pss_cons (ps_set (i := 3) sc_run.nd rfl (Or.inl rfl) (pe_make KC_Run.M G_Run___init__ (hr.mono (by first | decide | omega)) (by rfl) KC_Run.g D_Run___init__.b .nil pass0 (pa_cons (pv 0) (pa_cons (pv 1) (pa_cons (pv 2) pa_nil)))))
  (pss_one (ps_ret (pe_tup (pa_cons (pe_fld (pv 3) rfl) (pa_cons (pe_callTy call_tuple_of (by rfl) T.n_tuple (by decide +kernel) (pa_cons (pe_fld (pv 3) rfl) pa_nil)) (pa_cons (pe_meth0 (pv 3) KC_Run.cl D_Run_counts.m G_Run_counts (hr.mono (by first | decide | omega)) D_Run_counts.b .nil pass0) pa_nil)))))))), ?_⟩
  exact ⟨_, rfl, _, rfl, _, rfl, b, v, x, s, g, rfl, o, t⟩
theorem okE_story (N : NeedCo K w mg) (S : RunCo K mg C CR) (Er : ErrSG K mg c CW) (F : Fun K "story" "story" s_story f fd) : FnOk P w K mg base (L2.CX P w) 12 f fd p_story (spAllE K c) := by
  have T := S.T
  have KC_Run := S.KC_Run
  have RC := S.RC
  have D_need_all := N.D_need_all
  have D_Run___init__ := S.D_Run___init__
  have G_need_all : FnOk P w K mg base (L2.CX P w) 9 N.fF N.fdF p_need_all (spAllE K c) := okE_need_all N Er
  have G_Run___init__ : FnOk P w K mg base CX0 8 S.fI S.fdI p_Run___init__ spNo := fn_no
  refine F.okX sc_story (fun vs H Q E h => ?_) (fun cdv A outer s H vs Q E hr h => ?_)
  · obtain ⟨b, v, x, s, g, rfl, _⟩ := h
    rfl
  obtain ⟨b, v, x, s, g, rfl, o, t⟩ := h
  refine ⟨_, (pss_cons (ps_expr (pe_callS G_need_all (hr.mono (by first | decide | omega)) (by rfl) D_need_all.m D_need_all.F.kp D_need_all.b (fun σ => passAt (takes_of rfl rfl rfl rfl) σ) (pa_cons (pv 0) (pa_cons (pv 1) (pa_cons (pv 2) pa_nil)))))
  (pss_one (ps_ret (pe_fld (pe_make KC_Run.M G_Run___init__ (hr.mono (by first | decide | omega)) (by rfl) KC_Run.g D_Run___init__.b .nil pass0 (pa_cons (pv 0) (pa_cons (pv 1) (pa_cons (pv 2) pa_nil)))) rfl)))), ?_⟩
  exact ⟨_, rfl, _, rfl, _, rfl, b, v, x, s, g, rfl, o, t⟩
def spCostE (K : PySem.W.Frag) (c : EC) : Sp := fun vs H Q E => ∃ (b : Addr) (v x y : V) (s : Stg) (g : G), vs = [.ref b, v, x, y] ∧ Odd K H b v s g ∧ Tell c s g H E
theorem okE_cost (N : NeedC K w mg) (S : RunCo K mg C CR) (O : CostCo K mg CR) (Er : ErrSG K mg c CW) (F : Fun K "cost" "cost" s_cost f fd) : FnOk P w K mg base (L2.CX P w) 12 f fd p_cost (spCostE K c) := by
  have T := S.T
  have KC_Run := S.KC_Run
  have D_need_setting := N.D_need_setting
  have D_need_guesser := N.D_need_guesser
  have D_need_row := N.D_need_row
  have D_need_weights := O.D_need_weights
  have D_weighed := O.D_weighed
  have D_Run___init__ := S.D_Run___init__
  have D_Run_counts := O.D_Run_counts
  have G_need_setting : FnOk P w K mg base (L2.CX P w) 4 N.fC N.fdC p_need_setting (spNSX K c.S) := okX_need_setting N.T N.Cn Er.WC Er.XE_BadSetting Er.XI_BadSetting Er.D_BadSetting___init__ D_need_setting.F
  have G_need_guesser : FnOk P w K mg base (L2.CX P w) 7 N.fB N.fdB p_need_guesser (spNeedX K c.G) := okX_need_guesser N.T N.B Er.XE_BadGuesser Er.XP_BadGuesser N.D_is_guesser D_need_guesser.F
  have G_need_row : FnOk P w K mg base (L2.CX P w) 4 N.fE N.fdE p_need_row spNo := fn_no
  have G_need_weights : FnOk P w K mg base (L2.CX P w) 2 O.f4 O.fd4 p_need_weights spNo := fn_no
  have G_weighed : FnOk P w K mg base CX0 1 O.f5 O.fd5 p_weighed spNo := fn_no
  have G_Run___init__ : FnOk P w K mg base CX0 8 S.fI S.fdI p_Run___init__ spNo := fn_no
  have G_Run_counts : FnOk P w K mg base CX0 2 O.f2 O.fd2 p_Run_counts spNo := fn_no
  refine F.okX sc_cost (fun vs H Q E h => ?_) (fun cdv A outer s H vs Q E hr h => ?_)
  · obtain ⟨b, v, x, y, s, g, rfl, _⟩ := h
    rfl
  obtain ⟨b, v, x, y, s, g, rfl, o, t⟩ := h
  refine ⟨_, (pss_cons (ps_expr (pe_callS G_need_setting (hr.mono (by first | decide | omega)) (by rfl) D_need_setting.m D_need_setting.F.kp D_need_setting.b (fun σ => passAt (takes_of rfl rfl rfl rfl) σ) (pa_cons (pv 0) pa_nil)))
  (pss_cons (ps_expr (pe_callS G_need_guesser (hr.mono (by first | decide | omega)) (by rfl) D_need_guesser.m D_need_guesser.F.kp D_need_guesser.b (fun σ => passAt (takes_of rfl rfl rfl rfl) σ) (pa_cons (pv 1) pa_nil)))
  (pss_cons (ps_expr (pe_callS G_need_row (hr.mono (by first | decide | omega)) (by rfl) D_need_row.m D_need_row.F.kp D_need_row.b (fun σ => passAt (takes_of rfl rfl rfl rfl) σ) (pa_cons (pe_callB call_len_seq (by rfl) T.n_len (by decide +kernel) (pa_cons (pe_ix ix_tup (pv 0) pe_int (fun _ _ => rfl)) pa_nil)) (pa_cons (pv 2) pa_nil))))
  (pss_cons (ps_expr (pe_callS G_need_weights (hr.mono (by first | decide | omega)) (by rfl) D_need_weights.m D_need_weights.F.kp D_need_weights.b (fun σ => passAt (takes_of rfl rfl rfl rfl) σ) (pa_cons (pv 3) pa_nil)))
  (pss_one (ps_ret (pe_call G_weighed (hr.mono (by first | decide | omega)) (by rfl) D_weighed.m D_weighed.F.kp D_weighed.b .nil pass0 (pa_cons (pe_meth0 (pe_make KC_Run.M G_Run___init__ (hr.mono (by first | decide | omega)) (by rfl) KC_Run.g D_Run___init__.b .nil pass0 (pa_cons (pv 0) (pa_cons (pv 1) (pa_cons (pv 2) pa_nil)))) KC_Run.cl D_Run_counts.m G_Run_counts (hr.mono (by first | decide | omega)) D_Run_counts.b .nil pass0) (pa_cons (pv 3) pa_nil))))))))), ?_⟩
  refine ⟨_, rfl, b, s, rfl, o.set, o.ml, fun gs H1 s1 => ?_, t.set⟩
  refine ⟨_, rfl, v, g, rfl, o.gi.same s1, o.wf, fun ok => absurd ⟨gs, ok⟩ o.no, fun no => (t.gue gs no).after s1⟩
/-- the guesser behind one that is good -/
def spHeldE (K : PySem.W.Frag) (c : EC) : Sp := fun vs H Q E => ∃ (b l : Addr) (u v x y : V) (s : Stg) (g : G), vs = [.ref b, .ref l, x, y] ∧ Odd K H b v s g ∧ SqL K H l [u, v] ∧ IsG K H (.leaf "none" []) u ∧ Tell c s g H E
theorem okE_held (N : NeedC K w mg) (S : RunCo K mg C CR) (O : CostCo K mg CR) (hM : ∃ t, mg "MOST_GUESSERS" = some (.int 8 t)) (Er : ErrSG K mg c CW) (F : Fun K "held" "held" s_held f fd) : FnOk P w K mg base (L2.CX P w) 12 f fd p_held (spHeldE K c) := by
  have T := S.T
  have KC_Run := S.KC_Run
  have D_need_setting := N.D_need_setting
  have D_need_guesser := N.D_need_guesser
  have D_need_row := N.D_need_row
  have D_need_weights := O.D_need_weights
  have D_weighed := O.D_weighed
  have D_Run___init__ := S.D_Run___init__
  have D_Run_counts := O.D_Run_counts
  have XE_BadAsk := Er.XE_BadAsk
  have XP_BadAsk := Er.XP_BadAsk
  have G_need_setting : FnOk P w K mg base (L2.CX P w) 4 N.fC N.fdC p_need_setting (spNSX K c.S) := okX_need_setting N.T N.Cn Er.WC Er.XE_BadSetting Er.XI_BadSetting Er.D_BadSetting___init__ D_need_setting.F
  have G_need_guesser : FnOk P w K mg base (L2.CX P w) 7 N.fB N.fdB p_need_guesser (spNeedX K c.G) := okX_need_guesser N.T N.B Er.XE_BadGuesser Er.XP_BadGuesser N.D_is_guesser D_need_guesser.F
  have G_need_row : FnOk P w K mg base (L2.CX P w) 4 N.fE N.fdE p_need_row spNo := fn_no
  have G_need_weights : FnOk P w K mg base (L2.CX P w) 2 O.f4 O.fd4 p_need_weights spNo := fn_no
  have G_weighed : FnOk P w K mg base CX0 1 O.f5 O.fd5 p_weighed spNo := fn_no
  have G_Run___init__ : FnOk P w K mg base CX0 8 S.fI S.fdI p_Run___init__ spNo := fn_no
  have G_Run_counts : FnOk P w K mg base CX0 2 O.f2 O.fd2 p_Run_counts spNo := fn_no
  refine F.okX sc_held (fun vs H Q E h => ?_) (fun cdv A outer s H vs Q E hr h => ?_)
  · obtain ⟨b, l, u, v, x, y, s, g, rfl, _⟩ := h
    rfl
  obtain ⟨b, l, u, v, x, y, s, g, rfl, o, hl, hu, t⟩ := h
  refine ⟨_, (pss_cons (ps_expr (pe_callS G_need_setting (hr.mono (by first | decide | omega)) (by rfl) D_need_setting.m D_need_setting.F.kp D_need_setting.b (fun σ => passAt (takes_of rfl rfl rfl rfl) σ) (pa_cons (pv 0) pa_nil)))
  (pss_cons (ps_if (pt_cmpR op_gt (pe_callB call_len_seq (by rfl) T.n_len (by decide +kernel) (pa_cons (pv 1) pa_nil)) (pe_gint (by rfl) hM) (nomark _))
    (pss_one (ps_raise rfl (takes_of rfl rfl rfl rfl) (pmk_own PySem.F.excBase_ValueError XP_BadAsk XE_BadAsk.g XE_BadAsk.kp (raises_own XE_BadAsk.ex XE_BadAsk.ty) rfl)))
    (pss_nil))
  (pss_cons (ps_for (passes_of rfl) rfl (pi_list (pv 1)) (pg_name (i := 4) sc_held.nd rfl (Or.inl rfl))
    (pss_one (ps_expr (pe_callS G_need_guesser (hr.mono (by first | decide | omega)) (by rfl) D_need_guesser.m D_need_guesser.F.kp D_need_guesser.b (fun σ => passAt (takes_of rfl rfl rfl rfl) σ) (pa_cons (pv 4) pa_nil)))))
  (pss_cons (ps_expr (pe_callS G_need_row (hr.mono (by first | decide | omega)) (by rfl) D_need_row.m D_need_row.F.kp D_need_row.b (fun σ => passAt (takes_of rfl rfl rfl rfl) σ) (pa_cons (pe_callB call_len_seq (by rfl) T.n_len (by decide +kernel) (pa_cons (pe_ix ix_tup (pv 0) pe_int (fun _ _ => rfl)) pa_nil)) (pa_cons (pv 2) pa_nil))))
  (pss_cons (ps_expr (pe_callS G_need_weights (hr.mono (by first | decide | omega)) (by rfl) D_need_weights.m D_need_weights.F.kp D_need_weights.b (fun σ => passAt (takes_of rfl rfl rfl rfl) σ) (pa_cons (pv 3) pa_nil)))
  (pss_one (ps_ret (pe_callB cr_sortedPO (by rfl) T.n_sorted (by decide +kernel) (pa_cons (pe_lc (own := [("k", 5), ("one", 6)]) (g := (gTup K 2 (gCons (gName 5) (gCons (gName 6) gNil)))) rfl sc_held.nd (pi_enum (by rfl) T.n_enumerate (pa_cons (pv 1) pa_nil)) (blkOk_by (own := [("k", 5), ("one", 6)]) (N := N_held) (sc := defScope s_held) (by decide +kernel)) (fun _ _ _ _ _ => pg_tup rfl (pgs_cons (pg_name (i := 5) sc_held.nd rfl (Or.inl rfl)) (pgs_cons (pg_name (i := 6) sc_held.nd rfl (Or.inl rfl)) pgs_nil))) (fun _ _ _ _ _ => pts_nil) (fun _ _ _ _ _ => (pe_tup (pa_cons (pe_call G_weighed (hr.mono (by first | decide | omega)) (by rfl) D_weighed.m D_weighed.F.kp D_weighed.b .nil pass0 (pa_cons (pe_meth0 (pe_make KC_Run.M G_Run___init__ (hr.mono (by first | decide | omega)) (by rfl) KC_Run.g D_Run___init__.b .nil pass0 (pa_cons (pv 0) (pa_cons (pv 6) (pa_cons (pv 2) pa_nil)))) KC_Run.cl D_Run_counts.m G_Run_counts (hr.mono (by first | decide | omega)) D_Run_counts.b .nil pass0) (pa_cons (pv 3) pa_nil))) (pa_cons (pv 5) pa_nil))))) pa_nil))))))))), ?_⟩
  refine ⟨_, rfl, b, s, rfl, o.set, o.ml, fun gs H1 s1 => ?_, t.set⟩
  have hl1 := same_l s1 hl
  refine ⟨_, rfl, _, _, rfl, .inl hl1, _, _, rfl, rfl, _, rfl, iteB0 (decide_eq_false (by show ¬ (8 : Int) < 2; omega)) ?_⟩
  refine ⟨_, rfl, l, rfl, ⟨_, hl1⟩, ?_⟩
  refine for_list (xs := [u, v]) (fun i σ H' => i ≤ 1 ∧ ∃ y4, σ = [some (.ref b), some (.ref l), some x, some y, y4, none, none] ∧ Same H1 H') ⟨by omega, none, rfl, Same.refl _⟩ (fun i σ H' _ h => ?_) (fun i z σ H' hi h => ?_) (fun σ H2 h => ?_)
  · obtain ⟨_, y4, rfl, s2⟩ := h
    exact same_l s2 hl1
  · obtain ⟨hi1, y4, rfl, s2⟩ := h
    have s12 := s1.trans s2
    refine ⟨_, rfl, ?_⟩
    match i, hi, hi1 with
    | 0, hi, _ =>
      cases Option.some.inj hi
      refine ⟨u, .leaf "none" [], rfl, hu.same s12, (by show ("none" : Str) ≠ "both"; decide), fun _ H3 s3 => ⟨by omega, _, rfl, s2.trans s3⟩, fun z => absurd z (by decide)⟩
    | 1, hi, _ =>
      cases Option.some.inj hi
      exact ⟨v, g, rfl, o.gi.same s12, o.wf, fun ok => absurd ⟨gs, ok⟩ o.no, fun no => (t.gue gs no).after s12⟩
  · have h1 : [u, v].length ≤ 1 := h.1
    exact absurd h1 (by show ¬ 2 ≤ 1; omega)
/-- one of the two is the guesser, the other one is good -/
def spWorstE (K : PySem.W.Frag) (c : EC) : Sp := fun vs H Q E => ∃ (b : Addr) (v u1 u2 x y z : V) (s : Stg) (g : G), vs = [.ref b, u1, u2, x, y, z] ∧ Odd K H b v s g ∧ (u1 = v ∨ (u2 = v ∧ IsG K H (.leaf "none" []) u1)) ∧ Tell c s g H E
theorem okE_worst (O : WorstCo K w mg C) (Er : ErrSG K mg c CW) (F : Fun K "worst" "worst" s_worst f fd) : FnOk P w K mg base (L2.CX P w) 10 f fd p_worst (spWorstE K c) := by
  have T := O.T
  have KC_House := O.KC_House
  have D_need_setting := O.D_need_setting
  have D_need_guesser := O.D_need_guesser
  have D_need_weights := O.D_need_weights
  have D_need_rows := O.D_need_rows
  have D_House___init__ := O.D_House___init__
  have D_begun := O.D_begun
  have D_both_behind := O.D_both_behind
  have D_idle_in := O.D_idle_in
  have G_need_setting : FnOk P w K mg base (L2.CX P w) 4 O.fC O.fdC p_need_setting (spNSX K c.S) := okX_need_setting T O.Cn Er.WC Er.XE_BadSetting Er.XI_BadSetting Er.D_BadSetting___init__ D_need_setting.F
  have G_need_guesser : FnOk P w K mg base (L2.CX P w) 7 O.fB O.fdB p_need_guesser (spNeedX K c.G) := okX_need_guesser T O.B Er.XE_BadGuesser Er.XP_BadGuesser O.D_is_guesser D_need_guesser.F
  have G_need_weights : FnOk P w K mg base (L2.CX P w) 2 O.fD O.fdD p_need_weights spNo := fn_no
  have G_need_rows : FnOk P w K mg base (L2.CX P w) 2 O.fE O.fdE p_need_rows spNo := fn_no
  have G_House___init__ : FnOk P w K mg base CX0 1 O.fH O.fdH p_House___init__ spNo := fn_no
  have G_begun : FnOk P w K mg base CX0 5 O.f10 O.fd10 p_begun spNo := fn_no
  have G_both_behind : FnOk P w K mg base CX0 7 O.f12 O.fd12 p_both_behind spNo := fn_no
  have G_idle_in : FnOk P w K mg base CX0 1 O.f13 O.fd13 p_idle_in spNo := fn_no
  refine F.okX sc_worst (fun vs H Q E h => ?_) (fun cdv A outer s H vs Q E hr h => ?_)
  · obtain ⟨b, v, u1, u2, x, y, z, s, g, rfl, _⟩ := h
    rfl
  obtain ⟨b, v, u1, u2, x, y, z, s, g, rfl, o, hu, t⟩ := h
  refine ⟨_, (pss_cons (ps_expr (pe_callS G_need_setting (hr.mono (by first | decide | omega)) (by rfl) D_need_setting.m D_need_setting.F.kp D_need_setting.b (fun σ => passAt (takes_of rfl rfl rfl rfl) σ) (pa_cons (pv 0) pa_nil)))
  (pss_cons (ps_expr (pe_callS G_need_guesser (hr.mono (by first | decide | omega)) (by rfl) D_need_guesser.m D_need_guesser.F.kp D_need_guesser.b (fun σ => passAt (takes_of rfl rfl rfl rfl) σ) (pa_cons (pv 1) pa_nil)))
  (pss_cons (ps_expr (pe_callS G_need_guesser (hr.mono (by first | decide | omega)) (by rfl) D_need_guesser.m D_need_guesser.F.kp D_need_guesser.b (fun σ => passAt (takes_of rfl rfl rfl rfl) σ) (pa_cons (pv 2) pa_nil)))
  (pss_cons (ps_expr (pe_callS G_need_weights (hr.mono (by first | decide | omega)) (by rfl) D_need_weights.m D_need_weights.F.kp D_need_weights.b (fun σ => passAt (takes_of rfl rfl rfl rfl) σ) (pa_cons (pv 3) pa_nil)))
  (pss_cons (ps_expr (pe_callS G_need_rows (hr.mono (by first | decide | omega)) (by rfl) D_need_rows.m D_need_rows.F.kp D_need_rows.b (fun σ => passAt (takes_of rfl rfl rfl rfl) σ) (pa_cons (pe_callB call_len_seq (by rfl) T.n_len (by decide +kernel) (pa_cons (pe_ix ix_tup (pv 0) pe_int (fun _ _ => rfl)) pa_nil)) (pa_cons (pv 4) (pa_cons (pv 5) pa_nil)))))
  (pss_cons (ps_set (i := 6) sc_worst.nd rfl (Or.inl rfl) (pe_make KC_House.M G_House___init__ (hr.mono (by first | decide | omega)) (by rfl) KC_House.g D_House___init__.b .nil pass0 (pa_cons (pv 0) pa_nil)))
  (pss_cons (ps_set (i := 7) sc_worst.nd rfl (Or.inl rfl) (pe_tup (pa_cons (pv 1) (pa_cons (pv 2) pa_nil))))
  (pss_cons (ps_set (i := 8) sc_worst.nd rfl (Or.inl rfl) (pe_ndispK (P := P) (w := w) (K := K) (hn_of hr.units) (pe_tup (pa_cons (pe_call G_begun (hr.mono (by first | decide | omega)) (by rfl) D_begun.m D_begun.F.kp D_begun.b .nil pass0 (pa_cons (pv 1) pa_nil)) (pa_cons (pe_call G_begun (hr.mono (by first | decide | omega)) (by rfl) D_begun.m D_begun.F.kp D_begun.b .nil pass0 (pa_cons (pv 2) pa_nil)) pa_nil))) (pe_tup (pa_cons pe_int (pa_cons (pe_lst pa_nil) pa_nil)))))
  (pss_cons (ps_for (passes_of rfl) rfl (pi_range1 rfl T.n_range (pa_cons (pv 5) pa_nil)) (pg_name (i := 9) sc_worst.nd rfl (Or.inl rfl))
    (pss_cons (ps_set (i := 10) sc_worst.nd rfl (Or.inl rfl) (pe_nnewK (P := P) (w := w)))
    (pss_cons (ps_lock (ps_for (passes_of rfl) rfl (pi_keysNK (P := P) (w := w) (pv 8)) (pg_name (i := 11) sc_worst.nd rfl (Or.inl rfl))
      (pss_cons (ps_asg (pe_ngetK (P := P) (w := w) (K := K) (hn_of hr.units) (pv 8) (pv 11) (fun _ _ => rfl)) (pg_tup rfl (pgs_cons (pg_name (i := 12) sc_worst.nd rfl (Or.inl rfl)) (pgs_cons (pg_name (i := 13) sc_worst.nd rfl (Or.inl rfl)) pgs_nil))))
      (pss_one (ps_for (passes_of rfl) rfl (pi_range1 rfl T.n_range (pa_cons (pv 4) pa_nil)) (pg_name (i := 14) sc_worst.nd rfl (Or.inl rfl))
        (pss_cons (ps_asg (pe_call G_both_behind (hr.mono (by first | decide | omega)) (by rfl) D_both_behind.m D_both_behind.F.kp D_both_behind.b .nil pass0 (pa_cons (pv 6) (pa_cons (pv 7) (pa_cons (pv 11) (pa_cons (pv 14) (pa_cons (pv 3) pa_nil)))))) (pg_tup rfl (pgs_cons (pg_name (i := 15) sc_worst.nd rfl (Or.inl rfl)) (pgs_cons (pg_name (i := 16) sc_worst.nd rfl (Or.inl rfl)) pgs_nil))))
        (pss_cons (ps_set (i := 17) sc_worst.nd rfl (Or.inl rfl) (pe_tup (pa_cons (pe_op op_sub (pe_op op_sub pe_int (pv 12)) (pv 16)) (pa_cons (pe_op op_cat (pv 13) (pe_lst (pa_cons (pv 14) pa_nil))) pa_nil))))
        (pss_one (ps_if (PW.pt (pw_or (pt_cmp (pc_nnotinK (P := P) (w := w) (K := K) (hn_of hr.units) (pv 15) (pv 10)) rfl) (pw_or1 (pt_cmpR (op_ltDK (K := K) (hn_of hr.units)) (pv 17) (pe_tup (pa_cons (pe_op op_sub pe_int (pe_ix ix_tup (pe_ngetK (P := P) (w := w) (K := K) (hn_of hr.units) (pv 10) (pv 15) (fun _ _ => rfl)) pe_int (fun _ _ => rfl))) (pa_cons (pe_ix ix_tup (pe_ngetK (P := P) (w := w) (K := K) (hn_of hr.units) (pv 10) (pv 15) (fun _ _ => rfl)) pe_int (fun _ _ => rfl)) pa_nil))) (nomark _)))))
          (pss_one (ps_nputK (P := P) (w := w) (K := K) (hn_of hr.units) (pv 10) (pv 15) (pe_tup (pa_cons (pe_op op_add (pv 12) (pv 16)) (pa_cons (pe_ix ix_tup (pv 17) pe_int (fun _ _ => rfl)) pa_nil))) rfl))
          (pss_nil))))))))))
    (pss_one (ps_set (i := 8) sc_worst.nd rfl (Or.inl rfl) (pv 10))))))
  (pss_cons (ps_set (i := 18) sc_worst.nd rfl (Or.inl rfl) (pe_lst pa_nil))
  (pss_cons (ps_lock (ps_for (passes_of rfl) rfl (pi_keysNK (P := P) (w := w) (pv 8)) (pg_name (i := 11) sc_worst.nd rfl (Or.inl rfl))
    (pss_cons (ps_asg (pe_ngetK (P := P) (w := w) (K := K) (hn_of hr.units) (pv 8) (pv 11) (fun _ _ => rfl)) (pg_tup rfl (pgs_cons (pg_name (i := 12) sc_worst.nd rfl (Or.inl rfl)) (pgs_cons (pg_name (i := 13) sc_worst.nd rfl (Or.inl rfl)) pgs_nil))))
    (pss_cons (ps_set (i := 12) sc_worst.nd rfl (Or.inl rfl) (pe_op op_add (pv 12) (pe_op op_mul (pe_op op_sub (pe_call G_idle_in (hr.mono (by first | decide | omega)) (by rfl) D_idle_in.m D_idle_in.F.kp D_idle_in.b .nil pass0 (pa_cons (pe_ix ix_tup (pv 11) pe_int (fun _ _ => rfl)) pa_nil)) (pe_call G_idle_in (hr.mono (by first | decide | omega)) (by rfl) D_idle_in.m D_idle_in.F.kp D_idle_in.b .nil pass0 (pa_cons (pe_ix ix_tup (pv 11) pe_int (fun _ _ => rfl)) pa_nil))) (pe_ix ix_tup (pv 3) pe_int (fun _ _ => rfl)))))
    (pss_one (ps_expr (pe_bm PySem.F.plainAttrs_list PySem.F.slot_list_append PySem.F.type_list_append mt_append (pv 18) (pa_cons (pe_tup (pa_cons (pe_op op_sub pe_int (pv 12)) (pa_cons (pv 13) pa_nil))) pa_nil))))))))
  (pss_cons (ps_set (i := 19) sc_worst.nd rfl (Or.inl rfl) (pe_callB (cr_minDK (K := K) rfl (hn_of hr.units)) (by rfl) T.n_min (by decide +kernel) (pa_cons (pv 18) pa_nil)))
  (pss_one (ps_ret (pe_tup (pa_cons (pe_op op_sub pe_int (pe_ix ix_tup (pv 19) pe_int (fun _ _ => rfl))) (pa_cons (pe_ix ix_tup (pv 19) pe_int (fun _ _ => rfl)) pa_nil))))))))))))))))), ?_⟩
  refine ⟨_, rfl, b, s, rfl, o.set, o.ml, fun gs H1 s1 => ?_, t.set⟩
  have no : ∀ {H2 : Hp} {R : Hp → Prop}, Same H H2 → isG 0 g = true → R H2 := fun _ ok => absurd ⟨gs, ok⟩ o.no
  rcases hu with rfl | ⟨rfl, hu⟩
  · exact ⟨_, rfl, u1, g, rfl, o.gi.same s1, o.wf, fun ok => absurd ⟨gs, ok⟩ o.no, fun no => (t.gue gs no).after s1⟩
  · refine ⟨_, rfl, u1, .leaf "none" [], rfl, hu.same s1, (by show ("none" : Str) ≠ "both"; decide), fun _ H2 s2 => ?_, fun z => absurd z (by decide)⟩
    exact ⟨_, rfl, u2, g, rfl, o.gi.same (s1.trans s2), o.wf, fun ok => absurd ⟨gs, ok⟩ o.no, fun no => (t.gue gs no).after (s1.trans s2)⟩
/-- guesses, written -/
def spGuesE (K : PySem.W.Frag) (c : EC) : Sp := fun vs H Q E => ∃ (v x : V) (g : G), vs = [v, x] ∧ IsG K H g v ∧ WfG g ∧ isG 0 g = false ∧ errP c.G H E
theorem okE_guesses {f1 f2 f3 f6 dS dM : Addr} {fd1 fd2 fd3 fd6 : FuncData} (T : Nms mg) (B : Tab K w mg dS dM) (Er : ErrSG K mg c CW) (D_is_guesser : Df K mg "is_guesser" s_is_guesser p_is_guesser f1 fd1) (D_need_guesser : Df K mg "need_guesser" s_need_guesser p_need_guesser f2 fd2) (D_first_state : Df K mg "first_state" s_first_state p_first_state f3 fd3)
    (D_stepped : Df K mg "stepped" s_stepped p_stepped f6 fd6) (F : Fun K "guesses" "guesses" s_guesses f fd) : FnOk P w K mg base (L2.CX P w) 8 f fd p_guesses (spGuesE K c) := by
  have G_need_guesser : FnOk P w K mg base (L2.CX P w) 7 f2 fd2 p_need_guesser (spNeedX K c.G) := okX_need_guesser T B Er.XE_BadGuesser Er.XP_BadGuesser D_is_guesser D_need_guesser.F
  have G_first_state : FnOk P w K mg base CX0 4 f3 fd3 p_first_state spNo := fn_no
  have G_stepped : FnOk P w K mg base CX0 5 f6 fd6 p_stepped spNo := fn_no
  refine F.okX sc_guesses (fun vs H Q E h => ?_) (fun cdv A outer s H vs Q E hr h => ?_)
  · obtain ⟨v, x, g, rfl, _⟩ := h
    rfl
  obtain ⟨v, x, g, rfl, hG, wf, no, qe⟩ := h
  refine ⟨_, (pss_cons (ps_expr (pe_callS G_need_guesser (hr.mono (by first | decide | omega)) (by rfl) D_need_guesser.m D_need_guesser.F.kp D_need_guesser.b (fun σ => passAt (takes_of rfl rfl rfl rfl) σ) (pa_cons (pv 0) pa_nil)))
  (pss_cons (ps_set (i := 2) sc_guesses.nd rfl (Or.inl rfl) (pe_call G_first_state (hr.mono (by first | decide | omega)) (by rfl) D_first_state.m D_first_state.F.kp D_first_state.b .nil pass0 (pa_cons (pv 0) pa_nil)))
  (pss_cons (ps_set (i := 3) sc_guesses.nd rfl (Or.inl rfl) (pe_lst pa_nil))
  (pss_cons (ps_for (passes_of rfl) rfl (pi_list (pv 1)) (pg_name (i := 4) sc_guesses.nd rfl (Or.inl rfl))
    (pss_cons (ps_asg (pe_call G_stepped (hr.mono (by first | decide | omega)) (by rfl) D_stepped.m D_stepped.F.kp D_stepped.b .nil pass0 (pa_cons (pv 0) (pa_cons (pv 2) (pa_cons (pv 4) pa_nil)))) (pg_tup rfl (pgs_cons (pg_name (i := 2) sc_guesses.nd rfl (Or.inl rfl)) (pgs_cons (pg_name (i := 5) sc_guesses.nd rfl (Or.inl rfl)) pgs_nil))))
    (pss_one (ps_expr (pe_bm PySem.F.plainAttrs_list PySem.F.slot_list_append PySem.F.type_list_append mt_append (pv 3) (pa_cons (pv 5) pa_nil))))))
  (pss_one (ps_ret (pv 3))))))), ?_⟩
  exact ⟨_, rfl, v, g, rfl, hG, wf, fun ok => absurd (no.symm.trans ok) (by decide), fun _ => qe⟩
def spWritE (K : PySem.W.Frag) (c : EC) : Sp := fun vs H Q E => ∃ (v : V) (g : G), vs = [v] ∧ IsG K H g v ∧ WfG g ∧ isG 0 g = false ∧ errP c.G H E
theorem okE_written {f1 f2 f3 dS dM : Addr} {fd1 fd2 fd3 : FuncData} (T : Nms mg) (B : Tab K w mg dS dM) (Er : ErrSG K mg c CW) (D_is_guesser : Df K mg "is_guesser" s_is_guesser p_is_guesser f1 fd1) (D_need_guesser : Df K mg "need_guesser" s_need_guesser p_need_guesser f2 fd2)
    (D_words_of : Df K mg "words_of" s_words_of p_words_of f3 fd3) (F : Fun K "written" "written" s_written f fd) : FnOk P w K mg base (L2.CX P w) 8 f fd p_written (spWritE K c) := by
  have G_need_guesser : FnOk P w K mg base (L2.CX P w) 7 f2 fd2 p_need_guesser (spNeedX K c.G) := okX_need_guesser T B Er.XE_BadGuesser Er.XP_BadGuesser D_is_guesser D_need_guesser.F
  have G_words_of : FnOk P w K mg base CX0 4 f3 fd3 p_words_of spNo := fn_no
  refine F.okX sc_written (fun vs H Q E h => ?_) (fun cdv A outer s H vs Q E hr h => ?_)
  · obtain ⟨v, g, rfl, _⟩ := h
    rfl
  obtain ⟨v, g, rfl, hG, wf, no, qe⟩ := h
  refine ⟨_, (pss_cons (ps_expr (pe_callS G_need_guesser (hr.mono (by first | decide | omega)) (by rfl) D_need_guesser.m D_need_guesser.F.kp D_need_guesser.b (fun σ => passAt (takes_of rfl rfl rfl rfl) σ) (pa_cons (pv 0) pa_nil)))
  (pss_one (ps_ret (pe_join pe_str (pe_call G_words_of (hr.mono (by first | decide | omega)) (by rfl) D_words_of.m D_words_of.F.kp D_words_of.b .nil pass0 (pa_cons (pv 0) pa_nil)))))), ?_⟩
  exact ⟨_, rfl, v, g, rfl, hG, wf, fun ok => absurd (no.symm.trans ok) (by decide), fun _ => qe⟩
end
end St

namespace St
open PySem PySem.Spec PyProof.Rows L2
abbrev s__law_word : Stmt := topS 62
abbrev N__law_word : List Str := ["_law_work", "_law_kinds", "e"]
abbrev p__law_word : List Str := ["_law_work"]
theorem sc__law_word : FnScope N__law_word p__law_word (defScope s__law_word) := ⟨rfl, rfl, rfl, by decide +kernel, rfl, by decide +kernel, by decide +kernel⟩
/-- the errors' classes, told from each other -/
structure Kin5 (K : PySem.W.Frag) (mg : Str → Option Value) (c : EC) (TX W : Addr) where
  {fB fS fT : Addr}
  WC : WellC K mg W
  A : ErrX K mg "BadAsk" c.A W
  G : ErrX K mg "BadGuesser" c.G W
  B : ErrX K mg "BadRow" c.B W
  S : ErrX K mg "BadSetting" c.S W
  T : ErrX K mg "BadText" TX W
  iB : ErrI K "number" c.B fB
  iS : ErrI K "word" c.S fS
  iT : ErrI K "place" TX fT
  aa : Two K c.A c.A true
  ag : Two K c.A c.G false
  ab : Two K c.A c.B false
  as_ : Two K c.A c.S false
  at_ : Two K c.A TX false
  ga : Two K c.G c.A false
  gg : Two K c.G c.G true
  gb : Two K c.G c.B false
  gs : Two K c.G c.S false
  gt : Two K c.G TX false
  ba : Two K c.B c.A false
  bg : Two K c.B c.G false
  bb : Two K c.B c.B true
  bs : Two K c.B c.S false
  bt : Two K c.B TX false
  sa : Two K c.S c.A false
  sg : Two K c.S c.G false
  sb : Two K c.S c.B false
  ss : Two K c.S c.S true
  st : Two K c.S TX false
section
variable {P : Program} {w : World} {K : PySem.W.Frag} {mg : Str → Option Value} {base : Heap} {f CT CW : Addr} {fd : FuncData} {c : EC} {k : Nat}
def spWord (P : Program) (w : World) (K : PySem.W.Frag) (mg : Str → Option Value) (base : Heap) (k : Nat) (c : EC) : Sp := fun vs H Q _ => ∃ (a : Addr) (ts : Hp → VK → XK → Prop) (o : Out), vs = [.ref a] ∧ LamRun P w K mg base k a ts ∧ (∀ Q' E', Fate c o H Q' E' → ts H Q' E') ∧ ∀ p H', Same H H' → H p = none → H' p = some (.tup (outT o)) → Q (.ref p) H'
theorem ok__law_word (T : Nms mg) (k5 : Kin5 K mg c CT CW) (F : Fun K "_law_word" "_law_word" s__law_word f fd) : FnOk P w K mg base CX0 (k + 1) f fd p__law_word (spWord P w K mg base k c) := by
  have WC := k5.WC
  have XE_BadText := k5.T
  have XE_BadGuesser := k5.G
  have XE_BadAsk := k5.A
  have XE_BadRow := k5.B
  have XE_BadSetting := k5.S
  have XI_BadRow := k5.iB
  have XI_BadSetting := k5.iS
  have XI_BadText := k5.iT
  refine F.ok sc__law_word (fun vs H Q E h => ?_) (fun cdv A outer s H vs Q E hr h => ?_)
  · obtain ⟨a, ts, o, rfl, _⟩ := h
    rfl
  obtain ⟨a, ts, o, rfl, hL, hts, q⟩ := h
  refine ⟨_, (pss_cons (ps_try_as (i := 2) rfl rfl sc__law_word.nd rfl rfl ⟨rfl, by decide, Or.inl WC.g⟩ takes0
    (fun W pn xe tk _ => by exact (pss_one (ps_expr (pe_lamS (P := P) (w := w) (K := K) (mg := mg) (base := base) (k := k) tk (hr.mono (by first | decide | omega)) (i := 0) rfl (by first | exact Or.inl rfl | exact Or.inr (Or.inl rfl) | exact Or.inr (Or.inr rfl))))))
    (fun a oe cls d pn hz hf => by exact (pss_cons (ps_set (i := 1) sc__law_word.nd rfl (Or.inl rfl) (pe_lst (pa_cons (pe_callB (call_isX WC hz hf) (by rfl) T.n_isinstance (by decide +kernel) (pa_cons (pv 2) (pa_cons (pe_gref (by rfl) XE_BadAsk.g) pa_nil))) (pa_cons (pe_callB (call_isX WC hz hf) (by rfl) T.n_isinstance (by decide +kernel) (pa_cons (pv 2) (pa_cons (pe_gref (by rfl) XE_BadGuesser.g) pa_nil))) (pa_cons (pe_callB (call_isX WC hz hf) (by rfl) T.n_isinstance (by decide +kernel) (pa_cons (pv 2) (pa_cons (pe_gref (by rfl) XE_BadRow.g) pa_nil))) (pa_cons (pe_callB (call_isX WC hz hf) (by rfl) T.n_isinstance (by decide +kernel) (pa_cons (pv 2) (pa_cons (pe_gref (by rfl) XE_BadSetting.g) pa_nil))) pa_nil))))))
    (pss_cons (ps_expr (pe_bmK2 (K := K) PySem.F.plainAttrs_list PySem.F.slot_list_append PySem.F.type_list_append mt_append (pv 1) (pa_cons (pe_callB (call_isX WC hz hf) (by rfl) T.n_isinstance (by decide +kernel) (pa_cons (pv 2) (pa_cons (pe_gref (by rfl) XE_BadText.g) pa_nil))) pa_nil)))
    (pss_cons (ps_if (PW.pt (pw_or (pt_not (pt_val (pe_callB (call_isX WC hz hf) (by rfl) T.n_isinstance (by decide +kernel) (pa_cons (pv 2) (pa_cons (pe_bltn (v := .ty "ValueError") (u := .type "ValueError") (by rfl) WC.nve (by decide +kernel) rfl) pa_nil))))) (pw_or1 (pt_cmpR op_ne (pe_bmK2 (K := K) PySem.F.plainAttrs_list PySem.F.slot_list_count PySem.F.type_list_count (mt_lcountB (K := K)) (pv 1) (pa_cons pe_bl pa_nil)) pe_int (nomark _)))))
      (pss_one (ps_ret pe_non))
      (pss_nil))
    (pss_cons (ps_if (PW.pt (pw_or (pt_val (pe_ix (ix_listK (K := K)) (pv 1) pe_int (fun _ _ => rfl))) (pw_or1 (pt_val (pe_ix (ix_listK (K := K)) (pv 1) pe_int (fun _ _ => rfl))))))
      (pss_one (ps_ret (pe_tup (pa_cons (pe_ix (ix_listK (K := K)) (pe_lst (pa_cons pe_str (pa_cons pe_str pa_nil))) (pe_callTy call_int1 (by rfl) T.n_int (by decide +kernel) (pa_cons (pe_ix (ix_listK (K := K)) (pv 1) pe_int (fun _ _ => rfl)) pa_nil)) (fun _ _ => rfl)) (pa_cons pe_non pa_nil)))))
      (pss_nil))
    (pss_cons (ps_if (pt_val (pe_ix (ix_listK (K := K)) (pv 1) pe_int (fun _ _ => rfl)))
      (pss_one (ps_ret (pe_tup (pa_cons pe_str (pa_cons (pe_xf XE_BadRow.xf XI_BadRow.no hz hf (pv 2)) pa_nil)))))
      (pss_nil))
    (pss_one (ps_ret (pe_ifExp (pt_val (pe_ix (ix_listK (K := K)) (pv 1) pe_int (fun _ _ => rfl))) (pe_tup (pa_cons pe_str (pa_cons (pe_xf XE_BadSetting.xf XI_BadSetting.no hz hf (pv 2)) pa_nil))) (pe_tup (pa_cons pe_str (pa_cons (pe_xf XE_BadText.xf XI_BadText.no hz hf (pv 2)) pa_nil)))))))))))))
  (pss_one (ps_ret (pe_tup (pa_cons pe_str (pa_cons pe_non pa_nil)))))), ?_⟩
  refine ⟨a, ts, rfl, hL, hts _ _ ?_⟩
  cases o with
  | fine =>
    intro v H1 s1
    refine ⟨sz_2, fun p np => ?_⟩
    exact q p _ (s1.trans (same_upd np)) (s1.free np) upd_same
  | ask =>
    intro H1 s1
    refine ⟨true, exm_well WC XE_BadAsk, fun _ a na => ?_, fun q => nomatch q⟩
    refine ⟨_, rfl, "BadAsk", c.A, .ref c.A, .ref c.A, true, rfl, XE_BadAsk, rfl, .own _, .inl rfl, kit_ref XE_BadAsk k5.aa, ?_⟩
    refine ⟨_, rfl, "BadAsk", c.A, .ref c.G, .ref c.G, false, rfl, XE_BadAsk, rfl, .own _, .inl rfl, kit_ref XE_BadGuesser k5.ag, ?_⟩
    refine ⟨_, rfl, "BadAsk", c.A, .ref c.B, .ref c.B, false, rfl, XE_BadAsk, rfl, .own _, .inl rfl, kit_ref XE_BadRow k5.ab, ?_⟩
    refine ⟨_, rfl, "BadAsk", c.A, .ref c.S, .ref c.S, false, rfl, XE_BadAsk, rfl, .own _, .inl rfl, kit_ref XE_BadSetting k5.as_, ?_⟩
    refine ⟨sz_4, fun L nL => ?_⟩
    have w2 := same_upd (o := .lst [.bl true, .bl false, .bl false, .bl false]) nL
    have eL : (upd H1 L (.lst [.bl true, .bl false, .bl false, .bl false])) L = some (.lst [.bl true, .bl false, .bl false, .bl false]) := upd_same
    generalize upd H1 L (.lst [.bl true, .bl false, .bl false, .bl false]) = H2 at w2 eL ⊢
    refine ⟨_, rfl, .inl ⟨rfl, _, sql eL⟩, _, rfl, "BadAsk", c.A, .ref CT, .ref CT, false, rfl, XE_BadAsk, rfl, .own _, .inl rfl, kit_ref XE_BadText k5.at_, L, _, _, rfl, rfl, eL, szl (by show 4 < 1000000; omega), ?_⟩
    have w3 : Same H1 (upd H2 L (.lst ([.bl true, .bl false, .bl false, .bl false] ++ [.bl false]))) := same_mut w2 nL
    have eL : (upd H2 L (.lst ([.bl true, .bl false, .bl false, .bl false] ++ [.bl false]))) L = some (.lst ([true, false, false, false, false].map V.bl)) := upd_same
    generalize upd H2 L (.lst ([.bl true, .bl false, .bl false, .bl false] ++ [.bl false])) = H3 at w3 eL ⊢
    refine ⟨_, rfl, "BadAsk", c.A, .ty "ValueError", .type "ValueError", true, rfl, XE_BadAsk, rfl, .ty _, .inl rfl, kit_ve XE_BadAsk, _, rfl, iteB0 (b := !true) rfl ?_⟩
    refine ⟨_, rfl, .inl ⟨rfl, _, sql eL⟩, L, [true, false, false, false, false], true, rfl, rfl, sql eL, rfl, _, rfl, iteB0 rfl ?_⟩
    refine ⟨_, rfl, _, _, _, _, rfl, rfl, sql eL, atI_nat (j := 0) rfl, _, rfl, iteB rfl ?_⟩
    refine iteB rfl ?_
    refine ⟨sz_2, fun l nl => ?_⟩
    have w4 := same_upd (o := .lst [.str "ask", .str "guesser"]) nl
    have eL4 := w4 _ _ eL
    refine ⟨_, rfl, _, _, _, _, rfl, rfl, sql eL4, atI_nat (j := 1) rfl, .inr ⟨_, rfl, ?_⟩⟩
    refine ⟨_, _, _, _, rfl, rfl, sql upd_same, atI_nat (j := 0) rfl, ?_⟩
    refine ⟨sz_2, fun p np => ?_⟩
    exact q p _ (((s1.trans w3).trans w4).trans (same_upd np)) (((s1.trans w3).trans w4).free np) upd_same
  | gue =>
    intro H1 s1
    refine ⟨true, exm_well WC XE_BadGuesser, fun _ a na => ?_, fun q => nomatch q⟩
    refine ⟨_, rfl, "BadGuesser", c.G, .ref c.A, .ref c.A, false, rfl, XE_BadGuesser, rfl, .own _, .inl rfl, kit_ref XE_BadAsk k5.ga, ?_⟩
    refine ⟨_, rfl, "BadGuesser", c.G, .ref c.G, .ref c.G, true, rfl, XE_BadGuesser, rfl, .own _, .inl rfl, kit_ref XE_BadGuesser k5.gg, ?_⟩
    refine ⟨_, rfl, "BadGuesser", c.G, .ref c.B, .ref c.B, false, rfl, XE_BadGuesser, rfl, .own _, .inl rfl, kit_ref XE_BadRow k5.gb, ?_⟩
    refine ⟨_, rfl, "BadGuesser", c.G, .ref c.S, .ref c.S, false, rfl, XE_BadGuesser, rfl, .own _, .inl rfl, kit_ref XE_BadSetting k5.gs, ?_⟩
    refine ⟨sz_4, fun L nL => ?_⟩
    have w2 := same_upd (o := .lst [.bl false, .bl true, .bl false, .bl false]) nL
    have eL : (upd H1 L (.lst [.bl false, .bl true, .bl false, .bl false])) L = some (.lst [.bl false, .bl true, .bl false, .bl false]) := upd_same
    generalize upd H1 L (.lst [.bl false, .bl true, .bl false, .bl false]) = H2 at w2 eL ⊢
    refine ⟨_, rfl, .inl ⟨rfl, _, sql eL⟩, _, rfl, "BadGuesser", c.G, .ref CT, .ref CT, false, rfl, XE_BadGuesser, rfl, .own _, .inl rfl, kit_ref XE_BadText k5.gt, L, _, _, rfl, rfl, eL, szl (by show 4 < 1000000; omega), ?_⟩
    have w3 : Same H1 (upd H2 L (.lst ([.bl false, .bl true, .bl false, .bl false] ++ [.bl false]))) := same_mut w2 nL
    have eL : (upd H2 L (.lst ([.bl false, .bl true, .bl false, .bl false] ++ [.bl false]))) L = some (.lst ([false, true, false, false, false].map V.bl)) := upd_same
    generalize upd H2 L (.lst ([.bl false, .bl true, .bl false, .bl false] ++ [.bl false])) = H3 at w3 eL ⊢
    refine ⟨_, rfl, "BadGuesser", c.G, .ty "ValueError", .type "ValueError", true, rfl, XE_BadGuesser, rfl, .ty _, .inl rfl, kit_ve XE_BadGuesser, _, rfl, iteB0 (b := !true) rfl ?_⟩
    refine ⟨_, rfl, .inl ⟨rfl, _, sql eL⟩, L, [false, true, false, false, false], true, rfl, rfl, sql eL, rfl, _, rfl, iteB0 rfl ?_⟩
    refine ⟨_, rfl, _, _, _, _, rfl, rfl, sql eL, atI_nat (j := 0) rfl, _, rfl, iteB0 rfl ?_⟩
    refine ⟨_, rfl, _, _, _, _, rfl, rfl, sql eL, atI_nat (j := 1) rfl, _, rfl, iteB rfl ?_⟩
    refine ⟨sz_2, fun l nl => ?_⟩
    have w4 := same_upd (o := .lst [.str "ask", .str "guesser"]) nl
    have eL4 := w4 _ _ eL
    refine ⟨_, rfl, _, _, _, _, rfl, rfl, sql eL4, atI_nat (j := 1) rfl, .inr ⟨_, rfl, ?_⟩⟩
    refine ⟨_, _, _, _, rfl, rfl, sql upd_same, atI_nat (j := 1) rfl, ?_⟩
    refine ⟨sz_2, fun p np => ?_⟩
    exact q p _ (((s1.trans w3).trans w4).trans (same_upd np)) (((s1.trans w3).trans w4).free np) upd_same
  | row i =>
    intro d H1 s1 nd ed
    have ed0 := ed
    have ed0 := ed
    refine ⟨true, exm_well WC XE_BadRow, fun _ a na => ?_, fun q => nomatch q⟩
    refine ⟨_, rfl, "BadRow", c.B, .ref c.A, .ref c.A, false, rfl, XE_BadRow, rfl, .own _, .inr ⟨d, _, rfl, ed⟩, kit_ref XE_BadAsk k5.ba, ?_⟩
    refine ⟨_, rfl, "BadRow", c.B, .ref c.G, .ref c.G, false, rfl, XE_BadRow, rfl, .own _, .inr ⟨d, _, rfl, ed⟩, kit_ref XE_BadGuesser k5.bg, ?_⟩
    refine ⟨_, rfl, "BadRow", c.B, .ref c.B, .ref c.B, true, rfl, XE_BadRow, rfl, .own _, .inr ⟨d, _, rfl, ed⟩, kit_ref XE_BadRow k5.bb, ?_⟩
    refine ⟨_, rfl, "BadRow", c.B, .ref c.S, .ref c.S, false, rfl, XE_BadRow, rfl, .own _, .inr ⟨d, _, rfl, ed⟩, kit_ref XE_BadSetting k5.bs, ?_⟩
    refine ⟨sz_4, fun L nL => ?_⟩
    have w2 := same_upd (o := .lst [.bl false, .bl false, .bl true, .bl false]) nL
    have eL : (upd H1 L (.lst [.bl false, .bl false, .bl true, .bl false])) L = some (.lst [.bl false, .bl false, .bl true, .bl false]) := upd_same
    have ed := w2 _ _ ed
    generalize upd H1 L (.lst [.bl false, .bl false, .bl true, .bl false]) = H2 at w2 eL ed ⊢
    refine ⟨_, rfl, .inl ⟨rfl, _, sql eL⟩, _, rfl, "BadRow", c.B, .ref CT, .ref CT, false, rfl, XE_BadRow, rfl, .own _, .inr ⟨d, _, rfl, ed⟩, kit_ref XE_BadText k5.bt, L, _, _, rfl, rfl, eL, szl (by show 4 < 1000000; omega), ?_⟩
    have w3 : Same H1 (upd H2 L (.lst ([.bl false, .bl false, .bl true, .bl false] ++ [.bl false]))) := same_mut w2 nL
    have eL : (upd H2 L (.lst ([.bl false, .bl false, .bl true, .bl false] ++ [.bl false]))) L = some (.lst ([false, false, true, false, false].map V.bl)) := upd_same
    have ed : (upd H2 L (.lst ([.bl false, .bl false, .bl true, .bl false] ++ [.bl false]))) d = _ := w3 _ _ ed0
    generalize upd H2 L (.lst ([.bl false, .bl false, .bl true, .bl false] ++ [.bl false])) = H3 at w3 eL ed ⊢
    refine ⟨_, rfl, "BadRow", c.B, .ty "ValueError", .type "ValueError", true, rfl, XE_BadRow, rfl, .ty _, .inr ⟨d, _, rfl, ed⟩, kit_ve XE_BadRow, _, rfl, iteB0 (b := !true) rfl ?_⟩
    refine ⟨_, rfl, .inl ⟨rfl, _, sql eL⟩, L, [false, false, true, false, false], true, rfl, rfl, sql eL, rfl, _, rfl, iteB0 rfl ?_⟩
    refine ⟨_, rfl, _, _, _, _, rfl, rfl, sql eL, atI_nat (j := 0) rfl, _, rfl, iteB0 rfl ?_⟩
    refine ⟨_, rfl, _, _, _, _, rfl, rfl, sql eL, atI_nat (j := 1) rfl, _, rfl, iteB0 rfl ?_⟩
    refine ⟨_, rfl, _, _, _, _, rfl, rfl, sql eL, atI_nat (j := 2) rfl, _, rfl, iteB rfl ?_⟩
    refine ⟨_, rfl, rfl, rfl, d, _, _, rfl, ed, rfl, sz_2, fun p np => ?_⟩
    exact q p _ ((s1.trans w3).trans (same_upd np)) ((s1.trans w3).free np) upd_same
  | set z =>
    intro d H1 s1 nd ed
    have ed0 := ed
    refine ⟨true, exm_well WC XE_BadSetting, fun _ a na => ?_, fun q => nomatch q⟩
    refine ⟨_, rfl, "BadSetting", c.S, .ref c.A, .ref c.A, false, rfl, XE_BadSetting, rfl, .own _, .inr ⟨d, _, rfl, ed⟩, kit_ref XE_BadAsk k5.sa, ?_⟩
    refine ⟨_, rfl, "BadSetting", c.S, .ref c.G, .ref c.G, false, rfl, XE_BadSetting, rfl, .own _, .inr ⟨d, _, rfl, ed⟩, kit_ref XE_BadGuesser k5.sg, ?_⟩
    refine ⟨_, rfl, "BadSetting", c.S, .ref c.B, .ref c.B, false, rfl, XE_BadSetting, rfl, .own _, .inr ⟨d, _, rfl, ed⟩, kit_ref XE_BadRow k5.sb, ?_⟩
    refine ⟨_, rfl, "BadSetting", c.S, .ref c.S, .ref c.S, true, rfl, XE_BadSetting, rfl, .own _, .inr ⟨d, _, rfl, ed⟩, kit_ref XE_BadSetting k5.ss, ?_⟩
    refine ⟨sz_4, fun L nL => ?_⟩
    have w2 := same_upd (o := .lst [.bl false, .bl false, .bl false, .bl true]) nL
    have eL : (upd H1 L (.lst [.bl false, .bl false, .bl false, .bl true])) L = some (.lst [.bl false, .bl false, .bl false, .bl true]) := upd_same
    have ed := w2 _ _ ed
    generalize upd H1 L (.lst [.bl false, .bl false, .bl false, .bl true]) = H2 at w2 eL ed ⊢
    refine ⟨_, rfl, .inl ⟨rfl, _, sql eL⟩, _, rfl, "BadSetting", c.S, .ref CT, .ref CT, false, rfl, XE_BadSetting, rfl, .own _, .inr ⟨d, _, rfl, ed⟩, kit_ref XE_BadText k5.st, L, _, _, rfl, rfl, eL, szl (by show 4 < 1000000; omega), ?_⟩
    have w3 : Same H1 (upd H2 L (.lst ([.bl false, .bl false, .bl false, .bl true] ++ [.bl false]))) := same_mut w2 nL
    have eL : (upd H2 L (.lst ([.bl false, .bl false, .bl false, .bl true] ++ [.bl false]))) L = some (.lst ([false, false, false, true, false].map V.bl)) := upd_same
    have ed : (upd H2 L (.lst ([.bl false, .bl false, .bl false, .bl true] ++ [.bl false]))) d = _ := w3 _ _ ed0
    generalize upd H2 L (.lst ([.bl false, .bl false, .bl false, .bl true] ++ [.bl false])) = H3 at w3 eL ed ⊢
    refine ⟨_, rfl, "BadSetting", c.S, .ty "ValueError", .type "ValueError", true, rfl, XE_BadSetting, rfl, .ty _, .inr ⟨d, _, rfl, ed⟩, kit_ve XE_BadSetting, _, rfl, iteB0 (b := !true) rfl ?_⟩
    refine ⟨_, rfl, .inl ⟨rfl, _, sql eL⟩, L, [false, false, false, true, false], true, rfl, rfl, sql eL, rfl, _, rfl, iteB0 rfl ?_⟩
    refine ⟨_, rfl, _, _, _, _, rfl, rfl, sql eL, atI_nat (j := 0) rfl, _, rfl, iteB0 rfl ?_⟩
    refine ⟨_, rfl, _, _, _, _, rfl, rfl, sql eL, atI_nat (j := 1) rfl, _, rfl, iteB0 rfl ?_⟩
    refine ⟨_, rfl, _, _, _, _, rfl, rfl, sql eL, atI_nat (j := 2) rfl, _, rfl, iteB0 rfl ?_⟩
    refine ⟨_, rfl, _, _, _, _, rfl, rfl, sql eL, atI_nat (j := 3) rfl, _, rfl, iteB rfl ?_⟩
    refine ⟨_, rfl, rfl, rfl, d, _, _, rfl, ed, rfl, sz_2, fun p np => ?_⟩
    exact q p _ ((s1.trans w3).trans (same_upd np)) ((s1.trans w3).free np) upd_same
end
end St

namespace St
open PySem PySem.Spec PyProof.Rows L2
/-! ### what becomes of a lambda's call -/
/-- lists, tuples and known things stay -/
structure Kp (H H' : Hp) : Prop where
  imm : Imm H H'
  lst : ∀ l xs, H l = some (.lst xs) → H' l = some (.lst xs)
theorem Kp.refl (H : Hp) : Kp H H := ⟨Imm.refl H, fun _ _ h => h⟩
theorem Kp.trans {H H1 H2 : Hp} (a : Kp H H1) (b : Kp H1 H2) : Kp H H2 := ⟨a.imm.trans b.imm, fun l xs h => b.lst l xs (a.lst l xs h)⟩
theorem Kp.same {H H' : Hp} (s : Same H H') : Kp H H' := ⟨Imm.same s, fun _ _ h => s _ _ h⟩
theorem Kp.ext {H H' : Hp} (e : LamX.ExtN H H') : Kp H H' := ⟨⟨fun b xs h => e b _ h (fun ps z => by cases z), fun b o u _ h => e b _ h (fun ps z => by cases z)⟩, fun l xs h => e _ _ h (fun ps z => by cases z)⟩
theorem Kp.hide {cl : List (Str × Addr)} {H : Hp} (fz : ∀ c, Cel cl c → IsFz H c) : Kp H (hide cl H) := ⟨imm_hide fz, fun _ _ h => lst_hide fz h⟩
theorem Kp.l {K : PySem.W.Frag} {H H' : Hp} {a : Addr} {xs : List V} (e : Kp H H') (h : SqL K H a xs) : SqL K H' a xs := by
  rcases h with (h | ⟨o, h⟩) | h
  · exact .inl (.inl (e.lst _ _ h))
  · exact .inl (.inr ⟨o, e.imm.frz _ _ _ (.inr ⟨_, rfl⟩) h⟩)
  · exact .inr h
theorem IsRow.kp {K : PySem.W.Frag} {H H' : Hp} {a : Addr} {as : List Addr} {os : List OD} (h : IsRow K H a as os) (e : Kp H H') : IsRow K H' a as os := ⟨e.l h.l, h.p.imm e.imm, h.few, h.len⟩
theorem fz_same {cl : List (Str × Addr)} {H H' : Hp} (fz : ∀ c, Cel cl c → IsFz H c) (s : Same H H') : ∀ c, Cel cl c → IsFz H' c := fun c h => let ⟨o, v, a, d⟩ := fz c h; ⟨o, v, s _ _ a, d⟩
/-- .. in every heap behind H3 -/
def Fated (P : Program) (w : World) (K : PySem.W.Frag) (mg : Str → Option Value) (base : Heap) (k : Nat) (c : EC) (o : Out) (H3 : Hp) (f : Addr) : Prop := ∃ ts, LamRun P w K mg base k f ts ∧ ∀ H, Same H3 H → ∀ Q E, Fate c o H Q E → ts H Q E
section
variable {P : Program} {w : World} {K : PySem.W.Frag} {mg : Str → Option Value} {base : Heap} {k : Nat} {c : EC} {o : Out} {H3 : Hp} {f : Addr}
theorem Fated.after {H4 : Hp} (h : Fated P w K mg base k c o H3 f) (s : Same H3 H4) : Fated P w K mg base k c o H4 f := let ⟨ts, R, q⟩ := h; ⟨ts, R, fun H s2 => q H (s.trans s2)⟩
theorem WorkAt.fated {pre : Hp → VK → XK → Prop} (W : WorkAt P w K mg base k H3 f pre) (hp : ∀ H, Kp H3 H → ∀ Q E, Fate c o H Q E → pre H Q E) : Fated P w K mg base k c o H3 f := by
  obtain ⟨ts, cl, R, fz, h⟩ := W
  exact ⟨ts, R, fun H s Q E f => h H s Q E (hp _ ((Kp.same s).trans (Kp.hide (fz_same fz s))) _ _ f.hide)⟩
/-- what a row and weights are due -/
def Due (pl : Int) (os : List OD) (ws : List Int) (o : Out) : Prop := (∃ i : Nat, FirstBad pl os i ∧ o = .row ((i : Nat) : Int)) ∨ (AllGood pl os ∧ GoodW ws ∧ o = .fine) ∨ (AllGood pl os ∧ ¬ GoodW ws ∧ o = .ask)
/-- .. weights aside -/
def DueR (pl : Int) (os : List OD) (o : Out) : Prop := (∃ i : Nat, FirstBad pl os i ∧ o = .row ((i : Nat) : Int)) ∨ (AllGood pl os ∧ o = .fine)
theorem Due.r {pl : Int} {os : List OD} {ws : List Int} {o : Out} (h : Due pl os ws o) (n : o ≠ .ask) : DueR pl os o := by
  rcases h with h | ⟨a, _, e⟩ | ⟨_, _, e⟩
  · exact .inl h
  · exact .inr ⟨a, e⟩
  · exact absurd e n
/-- a setting, a guesser, a row, weights, in memory -/
structure Cas (K : PySem.W.Frag) (H : Hp) (sa : Addr) (v : V) (ra wp : Addr) (s : Stg) (g : G) (as : List Addr) (os : List OD) (ws : List Int) : Prop where
  set : IsSet K H sa s
  good : s.Good
  gi : IsG K H g v
  gg : St.good 2 g = true
  row : IsRow K H ra as os
  w : SqT K H wp (ws.map V.int)
  lw : ws.length ≤ 100
theorem Cas.kp {H H' : Hp} {sa : Addr} {v : V} {ra wp : Addr} {s : Stg} {g : G} {as : List Addr} {os : List OD} {ws : List Int} (C : Cas K H sa v ra wp s g as os ws) (e : Kp H H') : Cas K H' sa v ra wp s g as os ws :=
  ⟨C.set.imm e.imm, C.good, C.gi.imm e.imm, C.gg, C.row.kp e, e.imm.t C.w, C.lw⟩
section
variable {sa ra wp : Addr} {v : V} {s : Stg} {g : G} {as : List Addr} {os : List OD} {ws : List Int}
theorem run_fated (W : WorkAt P w K mg base k H3 f (fun H Q E => spRunX K c.B [.ref sa, v, .ref ra] H Q E)) (C : Cas K H3 sa v ra wp s g as os ws) (ho : DueR ((s.mem.length : Nat) : Int) os o) : Fated P w K mg base k c o H3 f := by
  refine W.fated fun H e Q E f => ?_
  have C' := C.kp e
  refine ⟨sa, ra, v, s, g, as, os, rfl, C'.set, C.good, C'.gi, good_up C.gg, C'.row, ?_⟩
  rcases ho with ⟨i, fb, rfl⟩ | ⟨ag, rfl⟩
  · exact ⟨fun ag => (all_not ag fb).elim, fun j fj => by rw [bad_one fj fb]; exact f⟩
  · exact ⟨fun _ u H' s => f u H' s, fun j fj => (all_not ag fj).elim⟩
theorem cost_fated (W : WorkAt P w K mg base k H3 f (fun H Q E => spCostX K c.A c.B [.ref sa, v, .ref ra, .ref wp] H Q E)) (C : Cas K H3 sa v ra wp s g as os ws) (ho : Due ((s.mem.length : Nat) : Int) os ws o) : Fated P w K mg base k c o H3 f := by
  refine W.fated fun H e Q E f => ?_
  have C' := C.kp e
  refine ⟨sa, ra, wp, v, s, g, as, os, ws, rfl, C'.set, C.good, C'.gi, good_up C.gg, C'.row, C'.w, C.lw, ?_⟩
  rcases ho with ⟨i, fb, rfl⟩ | ⟨ag, gw, rfl⟩ | ⟨ag, ng, rfl⟩
  · exact ⟨fun j fj => by rw [bad_one fj fb]; exact f, fun ag => (all_not ag fb).elim, fun ag => (all_not ag fb).elim⟩
  · exact ⟨fun j fj => (all_not ag fj).elim, fun _ n => absurd gw n, fun _ _ u H' s => f u H' s⟩
  · exact ⟨fun j fj => (all_not ag fj).elim, fun _ _ => f, fun _ gw => absurd gw ng⟩
theorem held_fated (W : WorkAt P w K mg base k H3 f (fun H Q E => ∀ l H1, Same H H1 → H1 l = some (.lst (List.replicate 8 v)) → spHeldX K c.A c.B [.ref sa, .ref l, .ref ra, .ref wp] H1 Q E)) (C : Cas K H3 sa v ra wp s g as os ws) (ho : Due ((s.mem.length : Nat) : Int) os ws o) : Fated P w K mg base k c o H3 f := by
  refine W.fated fun H e Q E f l H1 s1 el => ?_
  have C' := (C.kp e).kp (Kp.same s1)
  have f := f.after s1
  have l8 : (List.replicate 8 v).length = 8 := List.length_replicate
  have prg : PrG K H1 (List.replicate 8 v) (List.replicate 8 g) := by
    have x := C'.gi
    exact .cons x (.cons x (.cons x (.cons x (.cons x (.cons x (.cons x (.cons x .nil)))))))
  refine ⟨sa, l, ra, wp, List.replicate 8 v, s, as, os, ws, rfl, C'.set, C.good, sql el, by omega, fun _ => ⟨List.replicate 8 g, prg, fun g' hg' => by rw [List.eq_of_mem_replicate hg']; exact good_up C.gg⟩, C'.row, C'.w, C.lw, fun z => by omega, ?_⟩
  rcases ho with ⟨i, fb, rfl⟩ | ⟨ag, gw, rfl⟩ | ⟨ag, ng, rfl⟩
  · exact ⟨fun _ j fj => by rw [bad_one fj fb]; exact f, fun _ ag => (all_not ag fb).elim, fun _ ag => (all_not ag fb).elim⟩
  · exact ⟨fun _ j fj => (all_not ag fj).elim, fun _ _ n => absurd gw n, fun _ _ _ u H' s => f u H' s⟩
  · exact ⟨fun _ j fj => (all_not ag fj).elim, fun _ _ _ => f, fun _ _ gw => absurd gw ng⟩
end
end
/-! ### what was told of a call, as data -/
def dOut : Out → PyData
  | .fine => .tuple [.str "", .none]
  | .ask => .tuple [.str "ask", .none]
  | .gue => .tuple [.str "guesser", .none]
  | .row i => .tuple [.str "row", .int i]
  | .set w => .tuple [.str "setting", .str w]
theorem dp_out {K : PySem.W.Frag} {H : Hp} {p : Addr} : ∀ {o : Out}, SqT K H p (outT o) → Dp K H (.ref p) (dOut o)
  | .fine, h => .tup h (.cons (.str _) (.cons .non .nil))
  | .ask, h => .tup h (.cons (.str _) (.cons .non .nil))
  | .gue, h => .tup h (.cons (.str _) (.cons .non .nil))
  | .row _, h => .tup h (.cons (.str _) (.cons (.int _) .nil))
  | .set _, h => .tup h (.cons (.str _) (.cons (.str _) .nil))
theorem shp_two {x : Str} {d : PyData} (hx : PyData.canLay0 (.str x) = true) (hd : shp 1 d) : shp 2 (.tuple [.str x, d]) := fun e he => by
  simp only [List.mem_cons, List.not_mem_nil, or_false] at he
  rcases he with rfl | rfl
  · exact hx
  · exact hd
theorem shp_out : ∀ {o : Out}, (∀ w, o = .set w → PyData.canLay0 (.str w) = true) → shp 2 (dOut o)
  | .fine, _ => shp_two (by decide +kernel) trivial
  | .ask, _ => shp_two (by decide +kernel) trivial
  | .gue, _ => shp_two (by decide +kernel) trivial
  | .row _, _ => shp_two (by decide +kernel) trivial
  | .set w, h => shp_two (by decide +kernel) (h w rfl)
theorem ne_out {K : PySem.W.Frag} {H : Hp} {p p2 : Addr} {o : Out} {Q : VK} (h1 : SqT K H p (outT o)) (h2 : SqT K H p2 (outT o)) (so : shp 2 (dOut o)) (q : Q (.bl false) H) : rNeD K (.ref p) (.ref p2) H Q :=
  ⟨dOut o, dOut o, dp_out h1, dp_out h2, shp_lay so (by decide), shp_lay so (by decide), by rw [shp_refl so]; exact q⟩
theorem eq_out {K : PySem.W.Frag} {H : Hp} {p p2 : Addr} {o : Out} {Q : VK} (h1 : SqT K H p (outT o)) (h2 : SqT K H p2 (outT o)) (so : shp 2 (dOut o)) (q : Q (.bl true) H) : rEqD K (.ref p) (.ref p2) H Q :=
  ⟨dOut o, dOut o, dp_out h1, dp_out h2, shp_lay so (by decide), shp_lay so (by decide), by rw [shp_refl so]; exact q⟩
theorem pub_after {N : List Str} {env : Env} {σ : L2.St} {H1 H2 H3 : Hp} (pf : PubF N env σ H1 H2) (s : Same H2 H3) : Same H1 (hide env.cells H3) ∧ ∀ p xs, H3 p = some (.tup xs) → hide env.cells H3 p = some (.tup xs) :=
  ⟨fun b o e => by rw [hide_out (fun c => by rw [pf.no b c] at e; cases e)]; exact s _ _ (pf.same _ _ e), fun p xs e => by rw [hide_out (noCel (fz_same pf.fz s) e tup_fz)]; exact e⟩
/-- all but r and the tables stay -/
def ExtR (r : Addr) (H H' : Hp) : Prop := ∀ b o, b ≠ r → (∀ ps, o ≠ .tbl ps) → H b = some o → H' b = some o
theorem ExtR.refl (r : Addr) (H : Hp) : ExtR r H H := fun _ _ _ _ h => h
theorem ExtR.trans {r : Addr} {H H1 H2 : Hp} (a : ExtR r H H1) (b : ExtR r H1 H2) : ExtR r H H2 := fun c o n t h => b c o n t (a c o n t h)
theorem ExtR.x {r : Addr} {H H' : Hp} (s : SameX r H H') : ExtR r H H' := fun b o n _ h => s b o n h
theorem ExtR.s {r : Addr} {H H' : Hp} (s : Same H H') : ExtR r H H' := fun b o _ _ h => s b o h
theorem ExtR.n {r : Addr} {H H' : Hp} (s : LamX.ExtN H H') : ExtR r H H' := fun b o _ t h => s b o h t
theorem ExtR.imm {r : Addr} {H H' : Hp} (e : ExtR r H H') (l : LstAt H r) : Imm H H' := by
  obtain ⟨ys, l⟩ := l
  exact ⟨fun c xs h => e c _ (fun z => by subst z; rw [l] at h; cases h) (fun ps z => by cases z) h, fun c o u _ h => e c _ (fun z => by subst z; rw [l] at h; cases h) (fun ps z => by cases z) h⟩
theorem Row.ext {K : PySem.W.Frag} {H H' : Hp} {r : Addr} (h : Row K H r) (e : LamX.ExtN H H') : Row K H' r := by
  obtain ⟨sc, ns, i, s, h1, hs, h0⟩ := h
  exact ⟨sc, ns, i, s, e _ _ h1 (fun ps z => by cases z), hs.imm (Kp.ext e).imm, h0⟩
theorem tabs_x {TT : List (Addr × Str)} {H H' : Hp} {r : Addr} (T : LamX.Tabs TT H) (s : SameX r H H') (l : LstAt H r) : LamX.Tabs TT H' := fun p hp => by
  obtain ⟨ys, l⟩ := l
  obtain ⟨ps, h1, h2, h3⟩ := T p hp
  refine ⟨ps, s _ _ (fun z => by rw [z, l] at h1; cases h1) h1, h2, fun pos cv hc => ?_⟩
  obtain ⟨c, a, b⟩ := h3 pos cv hc
  exact ⟨c, a, s _ _ (fun z => by rw [z, l] at b; unfold LamX.CodeO at b; cases b) b⟩
end St

namespace St
open PySem PySem.Spec PyProof.Rows L2
abbrev s__law_works : Stmt := topS 67
abbrev N__law_works : List Str := ["_law_setting_here", "_law_guesser", "_law_row", "_law_weights", "_law_works_here"]
abbrev p__law_works : List Str := ["_law_setting_here", "_law_guesser", "_law_row", "_law_weights"]
theorem sc__law_works : FnScope N__law_works p__law_works (defScope s__law_works) := ⟨rfl, rfl, rfl, by decide +kernel, rfl, by decide +kernel, by decide +kernel⟩
section
variable {P : Program} {w : World} {K : PySem.W.Frag} {mg : Str → Option Value} {base : Heap} {f c p f1 f2 f3 f4 f5 : Addr} {fd fd1 fd2 fd3 fd4 fd5 : FuncData} {TT : List (Addr × Str)} {ec : EC}
def spWk1 (P : Program) (w : World) (K : PySem.W.Frag) (mg : Str → Option Value) (base : Heap) (TT : List (Addr × Str)) (ec : EC) : Sp := fun vs H Q _ => ∃ (v1 v2 v3 v4 : V), vs = [v1, v2, v3, v4] ∧ LamX.Tabs TT H ∧ ∀ D g1 g2 g3 g4 g5 g6 H', LamX.ExtN H H' → LamX.Tabs TT H' → H' D = some (.lst [.ref g1, .ref g2, .ref g3, .ref g4, .ref g5, .ref g6]) →
  WorkAt P w K mg base 14 H' g1 (fun H Q E => spAllE K ec [v1, v2, v3] H Q E) → WorkAt P w K mg base 14 H' g2 (fun H Q E => spAllE K ec [v1, v2, v3] H Q E) → WorkAt P w K mg base 14 H' g3 (fun H Q E => spCostE K ec [v1, v2, v3, v4] H Q E) →
  WorkAt P w K mg base 14 H' g4 (fun H Q E => ∀ u l H1, Same H H1 → H1 u = some (.tup [.str "none"]) → H1 l = some (.lst [.ref u, v2]) → spHeldE K ec [v1, .ref l, v3, v4] H1 Q E) →
  WorkAt P w K mg base 14 H' g5 (fun H Q E => ∀ u H1, Same H H1 → H1 u = some (.tup [.str "none"]) → spWorstE K ec [v1, v2, .ref u, v4, .int 0, .int 9] H1 Q E) →
  WorkAt P w K mg base 14 H' g6 (fun H Q E => ∀ u H1, Same H H1 → H1 u = some (.tup [.str "none"]) → spWorstE K ec [v1, .ref u, v2, v4, .int 0, .int 9] H1 Q E) → Q (.ref D) H'
theorem ok__law_wk1 (T : Nms mg) (TB__law_works : LamX.TabB base mg c p) (hm__law_works : (p, ("_law_works.<locals>." : Str) ++ "<lambda>") ∈ TT) (hu__law_works : ∀ q ∈ TT, q.1 = p → q.2 = ("_law_works.<locals>." : Str) ++ "<lambda>")
    (D_run : Df K mg "run" s_run p_run f1 fd1) (G_run : FnOk P w K mg base (L2.CX P w) 12 f1 fd1 p_run (spAllE K ec)) (D_story : Df K mg "story" s_story p_story f2 fd2) (G_story : FnOk P w K mg base (L2.CX P w) 12 f2 fd2 p_story (spAllE K ec)) (D_cost : Df K mg "cost" s_cost p_cost f3 fd3) (G_cost : FnOk P w K mg base (L2.CX P w) 12 f3 fd3 p_cost (spCostE K ec)) (D_held : Df K mg "held" s_held p_held f4 fd4) (G_held : FnOk P w K mg base (L2.CX P w) 12 f4 fd4 p_held (spHeldE K ec))
    (D_worst : Df K mg "worst" s_worst p_worst f5 fd5) (G_worst : FnOk P w K mg base (L2.CX P w) 10 f5 fd5 p_worst (spWorstE K ec)) (F : FunC K "_law_works" "_law_works" s__law_works f c fd) : FnOk P w K mg base CX0 2 f fd p__law_works (spWk1 P w K mg base TT ec) := by
  refine F.okP sc__law_works (fun vs H Q E h => ?_) (fun A outer s H vs Q E hr h => ?_)
  · obtain ⟨v1, v2, v3, v4, rfl, _⟩ := h
    rfl
  obtain ⟨v1, v2, v3, v4, rfl, hT, q⟩ := h
  refine ⟨_, (psf_cons (ps_set (i := 4) sc__law_works.nd rfl (Or.inl rfl) (pe_lst (pa_cons (pe_lamM TB__law_works rfl hm__law_works hu__law_works (LamX.lamS_by (by rfl))) pa_nil)))
  (psf_cons (ps_expr (pe_bm PySem.F.plainAttrs_list PySem.F.slot_list_append PySem.F.type_list_append mt_append (pv 4) (pa_cons (pe_lamM TB__law_works rfl hm__law_works hu__law_works (LamX.lamS_by (by rfl))) pa_nil)))
  (psf_cons (ps_expr (pe_bm PySem.F.plainAttrs_list PySem.F.slot_list_append PySem.F.type_list_append mt_append (pv 4) (pa_cons (pe_lamM TB__law_works rfl hm__law_works hu__law_works (LamX.lamS_by (by rfl))) pa_nil)))
  (psf_cons (ps_expr (pe_bm PySem.F.plainAttrs_list PySem.F.slot_list_append PySem.F.type_list_append mt_append (pv 4) (pa_cons (pe_lamM TB__law_works rfl hm__law_works hu__law_works (LamX.lamS_by (by rfl))) pa_nil)))
  (psf_cons (ps_expr (pe_bm PySem.F.plainAttrs_list PySem.F.slot_list_append PySem.F.type_list_append mt_append (pv 4) (pa_cons (pe_lamM TB__law_works rfl hm__law_works hu__law_works (LamX.lamS_by (by rfl))) pa_nil)))
  (psf_cons (ps_expr (pe_bm PySem.F.plainAttrs_list PySem.F.slot_list_append PySem.F.type_list_append mt_append (pv 4) (pa_cons (pe_lamM TB__law_works rfl hm__law_works hu__law_works (LamX.lamS_by (by rfl))) pa_nil)))
  (psf_ret (pv 4)))))))), ?_⟩
  refine ⟨hT, fun g1 c1 H1 x1 T1 n1 o1 k1 => ?_⟩
  have R1 := lam_runs_of (P := P) (w := w) (K := K) (mg := mg) (base := base) (N := N__law_works) (k := 13) o1 (lamN_by rfl) (fun _ _ _ _ => rfl) (fun A outer s H E f c' cl hr => ((pe_callS G_run (hr.mono (by first | decide | omega)) (by rfl) D_run.m D_run.F.kp D_run.b (fun σ => passAt (takes_of rfl rfl rfl rfl) σ) (pa_cons (pv 0) (pa_cons (pv 1) (pa_cons (pv 2) pa_nil))))))
  refine ⟨sz_1, fun L nL => ?_⟩
  have nb : ∀ b o, H b = some o → (∀ ps, o ≠ .tbl ps) → b ≠ L := fun b o e n => ne_of_none (x1 b o e n) nL
  have w1 := same_upd (o := .lst [.ref g1]) nL
  have eL1 : (upd H1 L (.lst [.ref g1])) L = some (.lst [.ref g1]) := upd_same
  have o1 := w1 _ _ o1
  have k1 := w1 _ _ k1
  have T1 := T1.ext w1
  have x1 := x1.trans (LamX.ExtN.of w1)
  generalize upd H1 L (.lst [.ref g1]) = G1 at eL1 o1 k1 T1 x1 ⊢
  refine ⟨_, rfl, .inl ⟨rfl, _, sql eL1⟩, T1, fun g2 c2 H2 x2 T2 n2 o2 k2 => ?_⟩
  have eM : H2 L = some (.lst [.ref g1]) := x2 _ _ eL1 (fun ps z => by cases z)
  have o1 := x2 _ _ o1 (fun ps z => by unfold LamO at z; cases z)
  have k1 := x2 _ _ k1 LamX.codeO_ne
  have R2 := lam_runs_of (P := P) (w := w) (K := K) (mg := mg) (base := base) (N := N__law_works) (k := 13) o2 (lamN_by rfl) (fun _ _ _ _ => rfl) (fun A outer s H E f c' cl hr => ((pe_callS G_story (hr.mono (by first | decide | omega)) (by rfl) D_story.m D_story.F.kp D_story.b (fun σ => passAt (takes_of rfl rfl rfl rfl) σ) (pa_cons (pv 0) (pa_cons (pv 1) (pa_cons (pv 2) pa_nil))))))
  refine ⟨L, _, _, rfl, rfl, eM, szl (by show 1 < 1000000; omega), ?_⟩
  have eL2 : (upd H2 L (.lst ([.ref g1] ++ [.ref g2]))) L = some (.lst ([.ref g1] ++ [.ref g2])) := upd_same
  have o1 := mut_keep (o := .lst ([.ref g1] ++ [.ref g2])) eM o1 lamO_lst
  have k1 := mut_keep (o := .lst ([.ref g1] ++ [.ref g2])) eM k1 codeO_lst
  have o2 := mut_keep (o := .lst ([.ref g1] ++ [.ref g2])) eM o2 lamO_lst
  have k2 := mut_keep (o := .lst ([.ref g1] ++ [.ref g2])) eM k2 codeO_lst
  have T2 := tabs_mut (o := .lst ([.ref g1] ++ [.ref g2])) T2 eM
  have y2 : LamX.ExtN H (upd H2 L (.lst ([.ref g1] ++ [.ref g2]))) := fun b o e n => by rw [upd_ne (nb b o e n)]; exact x2 _ _ (x1 b o e n) n
  generalize upd H2 L (.lst ([.ref g1] ++ [.ref g2])) = G2 at eL2 T2 y2 o1 k1 o2 k2 ⊢
  have x2 : LamX.ExtN H G2 := y2
  clear eM y2
  refine ⟨_, rfl, .inl ⟨rfl, _, sql eL2⟩, T2, fun g3 c3 H3 x3 T3 n3 o3 k3 => ?_⟩
  have eM : H3 L = some (.lst [.ref g1, .ref g2]) := x3 _ _ eL2 (fun ps z => by cases z)
  have o1 := x3 _ _ o1 (fun ps z => by unfold LamO at z; cases z)
  have k1 := x3 _ _ k1 LamX.codeO_ne
  have o2 := x3 _ _ o2 (fun ps z => by unfold LamO at z; cases z)
  have k2 := x3 _ _ k2 LamX.codeO_ne
  have R3 := lam_runs_of (P := P) (w := w) (K := K) (mg := mg) (base := base) (N := N__law_works) (k := 13) o3 (lamN_by rfl) (fun _ _ _ _ => rfl) (fun A outer s H E f c' cl hr => ((pe_callS G_cost (hr.mono (by first | decide | omega)) (by rfl) D_cost.m D_cost.F.kp D_cost.b (fun σ => passAt (takes_of rfl rfl rfl rfl) σ) (pa_cons (pv 0) (pa_cons (pv 1) (pa_cons (pv 2) (pa_cons (pv 3) pa_nil)))))))
  refine ⟨L, _, _, rfl, rfl, eM, szl (by show 2 < 1000000; omega), ?_⟩
  have eL3 : (upd H3 L (.lst ([.ref g1, .ref g2] ++ [.ref g3]))) L = some (.lst ([.ref g1, .ref g2] ++ [.ref g3])) := upd_same
  have o1 := mut_keep (o := .lst ([.ref g1, .ref g2] ++ [.ref g3])) eM o1 lamO_lst
  have k1 := mut_keep (o := .lst ([.ref g1, .ref g2] ++ [.ref g3])) eM k1 codeO_lst
  have o2 := mut_keep (o := .lst ([.ref g1, .ref g2] ++ [.ref g3])) eM o2 lamO_lst
  have k2 := mut_keep (o := .lst ([.ref g1, .ref g2] ++ [.ref g3])) eM k2 codeO_lst
  have o3 := mut_keep (o := .lst ([.ref g1, .ref g2] ++ [.ref g3])) eM o3 lamO_lst
  have k3 := mut_keep (o := .lst ([.ref g1, .ref g2] ++ [.ref g3])) eM k3 codeO_lst
  have T3 := tabs_mut (o := .lst ([.ref g1, .ref g2] ++ [.ref g3])) T3 eM
  have y3 : LamX.ExtN H (upd H3 L (.lst ([.ref g1, .ref g2] ++ [.ref g3]))) := fun b o e n => by rw [upd_ne (nb b o e n)]; exact x3 _ _ (x2 b o e n) n
  generalize upd H3 L (.lst ([.ref g1, .ref g2] ++ [.ref g3])) = G3 at eL3 T3 y3 o1 k1 o2 k2 o3 k3 ⊢
  have x3 : LamX.ExtN H G3 := y3
  clear eM y3
  refine ⟨_, rfl, .inl ⟨rfl, _, sql eL3⟩, T3, fun g4 c4 H4 x4 T4 n4 o4 k4 => ?_⟩
  have eM : H4 L = some (.lst [.ref g1, .ref g2, .ref g3]) := x4 _ _ eL3 (fun ps z => by cases z)
  have o1 := x4 _ _ o1 (fun ps z => by unfold LamO at z; cases z)
  have k1 := x4 _ _ k1 LamX.codeO_ne
  have o2 := x4 _ _ o2 (fun ps z => by unfold LamO at z; cases z)
  have k2 := x4 _ _ k2 LamX.codeO_ne
  have o3 := x4 _ _ o3 (fun ps z => by unfold LamO at z; cases z)
  have k3 := x4 _ _ k3 LamX.codeO_ne
  have R4 := lam_runs_of (P := P) (w := w) (K := K) (mg := mg) (base := base) (N := N__law_works) (k := 13) o4 (lamN_by rfl) (fun _ _ _ _ => rfl) (fun A outer s H E f c' cl hr => ((pe_callS G_held (hr.mono (by first | decide | omega)) (by rfl) D_held.m D_held.F.kp D_held.b (fun σ => passAt (takes_of rfl rfl rfl rfl) σ) (pa_cons (pv 0) (pa_cons (pe_lst (pa_cons (pe_tup (pa_cons pe_str pa_nil)) (pa_cons (pv 1) pa_nil))) (pa_cons (pv 2) (pa_cons (pv 3) pa_nil)))))))
  refine ⟨L, _, _, rfl, rfl, eM, szl (by show 3 < 1000000; omega), ?_⟩
  have eL4 : (upd H4 L (.lst ([.ref g1, .ref g2, .ref g3] ++ [.ref g4]))) L = some (.lst ([.ref g1, .ref g2, .ref g3] ++ [.ref g4])) := upd_same
  have o1 := mut_keep (o := .lst ([.ref g1, .ref g2, .ref g3] ++ [.ref g4])) eM o1 lamO_lst
  have k1 := mut_keep (o := .lst ([.ref g1, .ref g2, .ref g3] ++ [.ref g4])) eM k1 codeO_lst
  have o2 := mut_keep (o := .lst ([.ref g1, .ref g2, .ref g3] ++ [.ref g4])) eM o2 lamO_lst
  have k2 := mut_keep (o := .lst ([.ref g1, .ref g2, .ref g3] ++ [.ref g4])) eM k2 codeO_lst
  have o3 := mut_keep (o := .lst ([.ref g1, .ref g2, .ref g3] ++ [.ref g4])) eM o3 lamO_lst
  have k3 := mut_keep (o := .lst ([.ref g1, .ref g2, .ref g3] ++ [.ref g4])) eM k3 codeO_lst
  have o4 := mut_keep (o := .lst ([.ref g1, .ref g2, .ref g3] ++ [.ref g4])) eM o4 lamO_lst
  have k4 := mut_keep (o := .lst ([.ref g1, .ref g2, .ref g3] ++ [.ref g4])) eM k4 codeO_lst
  have T4 := tabs_mut (o := .lst ([.ref g1, .ref g2, .ref g3] ++ [.ref g4])) T4 eM
  have y4 : LamX.ExtN H (upd H4 L (.lst ([.ref g1, .ref g2, .ref g3] ++ [.ref g4]))) := fun b o e n => by rw [upd_ne (nb b o e n)]; exact x4 _ _ (x3 b o e n) n
  generalize upd H4 L (.lst ([.ref g1, .ref g2, .ref g3] ++ [.ref g4])) = G4 at eL4 T4 y4 o1 k1 o2 k2 o3 k3 o4 k4 ⊢
  have x4 : LamX.ExtN H G4 := y4
  clear eM y4
  refine ⟨_, rfl, .inl ⟨rfl, _, sql eL4⟩, T4, fun g5 c5 H5 x5 T5 n5 o5 k5 => ?_⟩
  have eM : H5 L = some (.lst [.ref g1, .ref g2, .ref g3, .ref g4]) := x5 _ _ eL4 (fun ps z => by cases z)
  have o1 := x5 _ _ o1 (fun ps z => by unfold LamO at z; cases z)
  have k1 := x5 _ _ k1 LamX.codeO_ne
  have o2 := x5 _ _ o2 (fun ps z => by unfold LamO at z; cases z)
  have k2 := x5 _ _ k2 LamX.codeO_ne
  have o3 := x5 _ _ o3 (fun ps z => by unfold LamO at z; cases z)
  have k3 := x5 _ _ k3 LamX.codeO_ne
  have o4 := x5 _ _ o4 (fun ps z => by unfold LamO at z; cases z)
  have k4 := x5 _ _ k4 LamX.codeO_ne
  have R5 := lam_runs_of (P := P) (w := w) (K := K) (mg := mg) (base := base) (N := N__law_works) (k := 13) o5 (lamN_by rfl) (fun _ _ _ _ => rfl) (fun A outer s H E f c' cl hr => ((pe_callS G_worst (hr.mono (by first | decide | omega)) (by rfl) D_worst.m D_worst.F.kp D_worst.b (fun σ => passAt (takes_of rfl rfl rfl rfl) σ) (pa_cons (pv 0) (pa_cons (pv 1) (pa_cons (pe_tup (pa_cons pe_str pa_nil)) (pa_cons (pv 3) (pa_cons pe_int (pa_cons pe_int pa_nil)))))))))
  refine ⟨L, _, _, rfl, rfl, eM, szl (by show 4 < 1000000; omega), ?_⟩
  have eL5 : (upd H5 L (.lst ([.ref g1, .ref g2, .ref g3, .ref g4] ++ [.ref g5]))) L = some (.lst ([.ref g1, .ref g2, .ref g3, .ref g4] ++ [.ref g5])) := upd_same
  have o1 := mut_keep (o := .lst ([.ref g1, .ref g2, .ref g3, .ref g4] ++ [.ref g5])) eM o1 lamO_lst
  have k1 := mut_keep (o := .lst ([.ref g1, .ref g2, .ref g3, .ref g4] ++ [.ref g5])) eM k1 codeO_lst
  have o2 := mut_keep (o := .lst ([.ref g1, .ref g2, .ref g3, .ref g4] ++ [.ref g5])) eM o2 lamO_lst
  have k2 := mut_keep (o := .lst ([.ref g1, .ref g2, .ref g3, .ref g4] ++ [.ref g5])) eM k2 codeO_lst
  have o3 := mut_keep (o := .lst ([.ref g1, .ref g2, .ref g3, .ref g4] ++ [.ref g5])) eM o3 lamO_lst
  have k3 := mut_keep (o := .lst ([.ref g1, .ref g2, .ref g3, .ref g4] ++ [.ref g5])) eM k3 codeO_lst
  have o4 := mut_keep (o := .lst ([.ref g1, .ref g2, .ref g3, .ref g4] ++ [.ref g5])) eM o4 lamO_lst
  have k4 := mut_keep (o := .lst ([.ref g1, .ref g2, .ref g3, .ref g4] ++ [.ref g5])) eM k4 codeO_lst
  have o5 := mut_keep (o := .lst ([.ref g1, .ref g2, .ref g3, .ref g4] ++ [.ref g5])) eM o5 lamO_lst
  have k5 := mut_keep (o := .lst ([.ref g1, .ref g2, .ref g3, .ref g4] ++ [.ref g5])) eM k5 codeO_lst
  have T5 := tabs_mut (o := .lst ([.ref g1, .ref g2, .ref g3, .ref g4] ++ [.ref g5])) T5 eM
  have y5 : LamX.ExtN H (upd H5 L (.lst ([.ref g1, .ref g2, .ref g3, .ref g4] ++ [.ref g5]))) := fun b o e n => by rw [upd_ne (nb b o e n)]; exact x5 _ _ (x4 b o e n) n
  generalize upd H5 L (.lst ([.ref g1, .ref g2, .ref g3, .ref g4] ++ [.ref g5])) = G5 at eL5 T5 y5 o1 k1 o2 k2 o3 k3 o4 k4 o5 k5 ⊢
  have x5 : LamX.ExtN H G5 := y5
  clear eM y5
  refine ⟨_, rfl, .inl ⟨rfl, _, sql eL5⟩, T5, fun g6 c6 H6 x6 T6 n6 o6 k6 => ?_⟩
  have eM : H6 L = some (.lst [.ref g1, .ref g2, .ref g3, .ref g4, .ref g5]) := x6 _ _ eL5 (fun ps z => by cases z)
  have o1 := x6 _ _ o1 (fun ps z => by unfold LamO at z; cases z)
  have k1 := x6 _ _ k1 LamX.codeO_ne
  have o2 := x6 _ _ o2 (fun ps z => by unfold LamO at z; cases z)
  have k2 := x6 _ _ k2 LamX.codeO_ne
  have o3 := x6 _ _ o3 (fun ps z => by unfold LamO at z; cases z)
  have k3 := x6 _ _ k3 LamX.codeO_ne
  have o4 := x6 _ _ o4 (fun ps z => by unfold LamO at z; cases z)
  have k4 := x6 _ _ k4 LamX.codeO_ne
  have o5 := x6 _ _ o5 (fun ps z => by unfold LamO at z; cases z)
  have k5 := x6 _ _ k5 LamX.codeO_ne
  have R6 := lam_runs_of (P := P) (w := w) (K := K) (mg := mg) (base := base) (N := N__law_works) (k := 13) o6 (lamN_by rfl) (fun _ _ _ _ => rfl) (fun A outer s H E f c' cl hr => ((pe_callS G_worst (hr.mono (by first | decide | omega)) (by rfl) D_worst.m D_worst.F.kp D_worst.b (fun σ => passAt (takes_of rfl rfl rfl rfl) σ) (pa_cons (pv 0) (pa_cons (pe_tup (pa_cons pe_str pa_nil)) (pa_cons (pv 1) (pa_cons (pv 3) (pa_cons pe_int (pa_cons pe_int pa_nil)))))))))
  refine ⟨L, _, _, rfl, rfl, eM, szl (by show 5 < 1000000; omega), ?_⟩
  have eL6 : (upd H6 L (.lst ([.ref g1, .ref g2, .ref g3, .ref g4, .ref g5] ++ [.ref g6]))) L = some (.lst ([.ref g1, .ref g2, .ref g3, .ref g4, .ref g5] ++ [.ref g6])) := upd_same
  have o1 := mut_keep (o := .lst ([.ref g1, .ref g2, .ref g3, .ref g4, .ref g5] ++ [.ref g6])) eM o1 lamO_lst
  have k1 := mut_keep (o := .lst ([.ref g1, .ref g2, .ref g3, .ref g4, .ref g5] ++ [.ref g6])) eM k1 codeO_lst
  have o2 := mut_keep (o := .lst ([.ref g1, .ref g2, .ref g3, .ref g4, .ref g5] ++ [.ref g6])) eM o2 lamO_lst
  have k2 := mut_keep (o := .lst ([.ref g1, .ref g2, .ref g3, .ref g4, .ref g5] ++ [.ref g6])) eM k2 codeO_lst
  have o3 := mut_keep (o := .lst ([.ref g1, .ref g2, .ref g3, .ref g4, .ref g5] ++ [.ref g6])) eM o3 lamO_lst
  have k3 := mut_keep (o := .lst ([.ref g1, .ref g2, .ref g3, .ref g4, .ref g5] ++ [.ref g6])) eM k3 codeO_lst
  have o4 := mut_keep (o := .lst ([.ref g1, .ref g2, .ref g3, .ref g4, .ref g5] ++ [.ref g6])) eM o4 lamO_lst
  have k4 := mut_keep (o := .lst ([.ref g1, .ref g2, .ref g3, .ref g4, .ref g5] ++ [.ref g6])) eM k4 codeO_lst
  have o5 := mut_keep (o := .lst ([.ref g1, .ref g2, .ref g3, .ref g4, .ref g5] ++ [.ref g6])) eM o5 lamO_lst
  have k5 := mut_keep (o := .lst ([.ref g1, .ref g2, .ref g3, .ref g4, .ref g5] ++ [.ref g6])) eM k5 codeO_lst
  have o6 := mut_keep (o := .lst ([.ref g1, .ref g2, .ref g3, .ref g4, .ref g5] ++ [.ref g6])) eM o6 lamO_lst
  have k6 := mut_keep (o := .lst ([.ref g1, .ref g2, .ref g3, .ref g4, .ref g5] ++ [.ref g6])) eM k6 codeO_lst
  have T6 := tabs_mut (o := .lst ([.ref g1, .ref g2, .ref g3, .ref g4, .ref g5] ++ [.ref g6])) T6 eM
  have y6 : LamX.ExtN H (upd H6 L (.lst ([.ref g1, .ref g2, .ref g3, .ref g4, .ref g5] ++ [.ref g6]))) := fun b o e n => by rw [upd_ne (nb b o e n)]; exact x6 _ _ (x5 b o e n) n
  generalize upd H6 L (.lst ([.ref g1, .ref g2, .ref g3, .ref g4, .ref g5] ++ [.ref g6])) = G6 at eL6 T6 y6 o1 k1 o2 k2 o3 k3 o4 k4 o5 k5 o6 k6 ⊢
  have x6 : LamX.ExtN H G6 := y6
  clear eM y6
  refine ⟨_, rfl, fun H5 pf => ?_⟩
  have s5 := pf.same
  refine q L g1 g2 g3 g4 g5 g6 H5 (x6.trans (LamX.ExtN.of s5)) (T6.ext s5) (s5 _ _ eL6) ?_ ?_ ?_ ?_ ?_ ?_
  · exact work_at R1 (s5 _ _ o1) (s5 _ _ k1) (pf.lam (LamX.lamS_by (by rfl))) fun H Q E h => ⟨_, rfl, _, rfl, _, rfl, h⟩
  · exact work_at R2 (s5 _ _ o2) (s5 _ _ k2) (pf.lam (LamX.lamS_by (by rfl))) fun H Q E h => ⟨_, rfl, _, rfl, _, rfl, h⟩
  · exact work_at R3 (s5 _ _ o3) (s5 _ _ k3) (pf.lam (LamX.lamS_by (by rfl))) fun H Q E h => ⟨_, rfl, _, rfl, _, rfl, _, rfl, h⟩
  · exact work_at R4 (s5 _ _ o4) (s5 _ _ k4) (pf.lam (LamX.lamS_by (by rfl))) fun H Q E h => ⟨_, rfl, sz_1, fun u nu => ⟨_, rfl, sz_2, fun l nl => ⟨_, rfl, _, rfl, h u l _ ((same_upd nu).trans (same_upd nl)) (same_upd nl _ _ upd_same) upd_same⟩⟩⟩
  · exact work_at R5 (s5 _ _ o5) (s5 _ _ k5) (pf.lam (LamX.lamS_by (by rfl))) fun H Q E h => ⟨_, rfl, _, rfl, sz_1, fun u nu => ⟨_, rfl, h u _ (same_upd nu) upd_same⟩⟩
  · exact work_at R6 (s5 _ _ o6) (s5 _ _ k6) (pf.lam (LamX.lamS_by (by rfl))) fun H Q E h => ⟨_, rfl, sz_1, fun u nu => ⟨_, rfl, _, rfl, h u _ (same_upd nu) upd_same⟩⟩
end
end St

namespace St
open PySem PySem.Spec PyProof.Rows L2
abbrev s__law_is_guesser : Stmt := topS 63
abbrev N__law_is_guesser : List Str := ["_law_guesser", "_law_within", "_law_sizes"]
abbrev p__law_is_guesser : List Str := ["_law_guesser", "_law_within"]
theorem sc__law_is_guesser : FnScope N__law_is_guesser p__law_is_guesser (defScope s__law_is_guesser) := ⟨rfl, rfl, rfl, by decide +kernel, rfl, by decide +kernel, by decide +kernel⟩
/-! ### guessers that are mostly none -/
def wordsL : List Str := ["none", "next", "stride", "pair", "pairs", "Next"]
/-- n bothes around one another at the most -/
def OddG : Nat → G → Prop
  | _, .nil => True
  | _, .leaf w ns => w ∈ wordsL ∧ ns.length ≤ 2
  | n + 1, .b1 a => OddG n a
  | n + 1, .both a b => OddG n a ∧ OddG n b
  | n + 1, .b3 a b c => OddG n a ∧ OddG n b ∧ OddG n c
  | _, _ => False
theorem oddG_wf : ∀ {n : Nat} {g : G}, OddG n g → WfG g
  | _, .nil, _ => True.intro
  | n, .leaf w ns, h => by
    have h : w ∈ wordsL ∧ ns.length ≤ 2 := by cases n <;> exact h
    intro e
    rw [e] at h
    exact absurd h.1 (by decide)
  | 0, .b1 _, h => h.elim
  | 0, .both _ _, h => h.elim
  | 0, .b3 _ _ _, h => h.elim
  | n + 1, .b1 a, h => oddG_wf (n := n) (g := a) h
  | _ + 1, .both _ _, h => ⟨oddG_wf h.1, oddG_wf h.2⟩
  | _ + 1, .b3 _ _ _, h => ⟨oddG_wf h.1, oddG_wf h.2.1, oddG_wf h.2.2⟩
theorem oddG_up : ∀ {n : Nat} {g : G}, OddG n g → OddG (n + 1) g
  | n, .nil, _ => True.intro
  | n, .leaf w ns, h => by cases n <;> exact h
  | 0, .b1 _, h => h.elim
  | 0, .both _ _, h => h.elim
  | 0, .b3 _ _ _, h => h.elim
  | n + 1, .b1 a, h => oddG_up (n := n) (g := a) h
  | _ + 1, .both _ _, h => ⟨oddG_up h.1, oddG_up h.2⟩
  | _ + 1, .b3 _ _ _, h => ⟨oddG_up h.1, oddG_up h.2.1, oddG_up h.2.2⟩
theorem oddG_le {n m : Nat} {g : G} (h : OddG n g) (l : n ≤ m) : OddG m g := by
  induction l with
  | refl => exact h
  | step _ ih => exact oddG_up ih
def dOg : G → PyData
  | .nil => .tuple []
  | .leaf w ns => .tuple (.str w :: ns.map .int)
  | .b1 a => .tuple [.str "both", dOg a]
  | .both a b => .tuple [.str "both", dOg a, dOg b]
  | .b3 a b c => .tuple [.str "both", dOg a, dOg b, dOg c]
theorem dp_intsO {K : PySem.W.Frag} {H : Hp} : ∀ l : List Int, DpAll K H (l.map V.int) (l.map PyData.int)
  | [] => .nil
  | a :: r => .cons (.int a) (dp_intsO r)
theorem dp_Og {K : PySem.W.Frag} {H : Hp} : ∀ {g : G} {v : V}, IsG K H g v → Dp K H v (dOg g)
  | .nil, _, ⟨_, rfl, h⟩ => .tup h .nil
  | .leaf _ ns, _, ⟨_, rfl, h⟩ => .tup h (.cons (.str _) (dp_intsO ns))
  | .b1 _, _, ⟨_, _, rfl, h, ha⟩ => .tup h (.cons (.str _) (.cons (dp_Og ha) .nil))
  | .both _ _, _, ⟨_, _, _, rfl, h, ha, hb⟩ => .tup h (.cons (.str _) (.cons (dp_Og ha) (.cons (dp_Og hb) .nil)))
  | .b3 _ _ _, _, ⟨_, _, _, _, rfl, h, ha, hb, hc⟩ => .tup h (.cons (.str _) (.cons (dp_Og ha) (.cons (dp_Og hb) (.cons (dp_Og hc) .nil))))
theorem lay_wordsL : ∀ w ∈ ("both" : Str) :: wordsL, PyData.canLay0 (.str w) = true := by decide +kernel
theorem shp_Og : ∀ {n : Nat} {g : G}, OddG n g → shp (n + 1) (dOg g)
  | _, .nil, _ => fun _ h => by cases h
  | n, .leaf w ns, h => by
    have h : w ∈ wordsL ∧ ns.length ≤ 2 := by cases n <;> exact h
    intro d hd
    rcases List.mem_cons.mp hd with rfl | hd
    · cases n <;> exact lay_wordsL w (List.mem_cons_of_mem _ h.1)
    · obtain ⟨i, _, rfl⟩ := List.mem_map.mp hd
      cases n <;> trivial
  | 0, .b1 _, h => h.elim
  | 0, .both _ _, h => h.elim
  | 0, .b3 _ _ _, h => h.elim
  | n + 1, .b1 a, h => fun d hd => by
    simp only [List.mem_cons, List.not_mem_nil, or_false] at hd
    rcases hd with rfl | rfl
    · exact lay_wordsL _ (List.mem_cons_self ..)
    · exact shp_Og (n := n) (g := a) h
  | n + 1, .both a b, h => fun d hd => by
    simp only [List.mem_cons, List.not_mem_nil, or_false] at hd
    rcases hd with rfl | rfl | rfl
    · exact lay_wordsL _ (List.mem_cons_self ..)
    · exact shp_Og h.1
    · exact shp_Og h.2
  | n + 1, .b3 a b c, h => fun d hd => by
    simp only [List.mem_cons, List.not_mem_nil, or_false] at hd
    rcases hd with rfl | rfl | rfl | rfl
    · exact lay_wordsL _ (List.mem_cons_self ..)
    · exact shp_Og h.1
    · exact shp_Og h.2.1
    · exact shp_Og h.2.2
theorem eqv_nil (g : G) : PyData.eqv (dOg g) (.tuple []) = (match g with | .nil => true | _ => false) := by
  cases g <;> simp [dOg, PyData.eqv, PyData.eqvAll]
def sizeK : List (Key × V) := mergeK [] [((.inr "none" : Key), V.int 1), (.inr "next", .int 2), (.inr "stride", .int 2), (.inr "pairs", .int 2), (.inr "both", .int 3)]
theorem size_look : ∀ w ∈ ("both" : Str) :: wordsL, valV sizeK (.inr w) = (sortsL.lookup w).map V.int := by decide +kernel
section
variable {P : Program} {w : World} {K : PySem.W.Frag} {mg : Str → Option Value} {base : Heap} {f : Addr} {fd : FuncData}
def spLIG (K : PySem.W.Frag) (n : Nat) : Sp := fun vs H Q _ => ∃ (v : V) (g : G) (m : Nat), vs = [v, .int (m : Int)] ∧ IsG K H g v ∧ OddG 20 g ∧ m ≤ 4 ∧ 5 ≤ m + n ∧ ∀ H', Same H H' → Q (.bl (isG m g)) H'
theorem ok__law_is_guesser (T : Nms mg) (D__law_is_guesser : Df K mg "_law_is_guesser" s__law_is_guesser p__law_is_guesser f fd) : ∀ n : Nat, FnOk P w K mg base CX0 n f fd p__law_is_guesser (spLIG K n)
  | 0 => fn_zero fun vs H Q E ⟨v, g, m, _, _, _, h, h2, _⟩ => by omega
  | n + 1 => by
    have G__law_is_guesser := ok__law_is_guesser T D__law_is_guesser n
    refine D__law_is_guesser.F.ok sc__law_is_guesser (fun vs H Q E h => ?_) (fun cdv A outer s H vs Q E hr h => ?_)
    · obtain ⟨v, g, m, rfl, _⟩ := h
      rfl
    obtain ⟨v, g, m, rfl, hG, hO, h4, h5, q⟩ := h
    refine ⟨_, (pss_cons (ps_set (i := 2) sc__law_is_guesser.nd rfl (Or.inl rfl) (pe_disp (pps_cons pe_str pe_int (pps_cons pe_str pe_int (pps_cons pe_str pe_int (pps_cons pe_str pe_int (pps_cons pe_str pe_int pps_nil))))) (by rfl) (by rfl) (fun z => by cases z) (by decide)))
  (pss_cons (ps_if (PW.pt (pw_or (pt_cmpR (op_eqD hr.units) (pv 0) (pe_tup pa_nil) (nomark _)) (pw_or (pt_cmpR op_ne (pe_dget2 (hu_of hr) (pv 2) (pe_ix ix_tup (pv 0) pe_int (fun _ _ => rfl)) pe_int ⟨rfl, rfl, rfl, rfl⟩) (pe_callB call_len_seq (by rfl) T.n_len (by decide +kernel) (pa_cons (pv 0) pa_nil)) (nomark _)) (pw_or1 (pt_cmpR op_gt (pv 1) pe_int (nomark _))))))
    (pss_one (ps_ret pe_bl))
    (pss_nil))
  (pss_cons (ps_if (pt_cmpR op_eq (pe_ix ix_tup (pv 0) pe_int (fun _ _ => rfl)) pe_str (nomark _))
    (pss_one (ps_ret (pe_and (pe_call G__law_is_guesser (hr.mono (by first | decide | omega)) (by rfl) D__law_is_guesser.m D__law_is_guesser.F.kp D__law_is_guesser.b .nil pass0 (pa_cons (pe_ix ix_tup (pv 0) pe_int (fun _ _ => rfl)) (pa_cons (pe_op op_add (pv 1) pe_int) pa_nil))) (pe_one (pe_call G__law_is_guesser (hr.mono (by first | decide | omega)) (by rfl) D__law_is_guesser.m D__law_is_guesser.F.kp D__law_is_guesser.b .nil pass0 (pa_cons (pe_ix ix_tup (pv 0) pe_int (fun _ _ => rfl)) (pa_cons (pe_op op_add (pv 1) pe_int) pa_nil)))))))
    (pss_nil))
  (pss_one (ps_ret (pe_or (pe_cmpR op_eq (pe_ix ix_tup (pv 0) pe_int (fun _ _ => rfl)) pe_str (nomark _)) (pe_one (pe_chain op_le op_le pe_int (pe_ix ix_tup (pv 0) pe_int (fun _ _ => rfl)) (pe_dget (hu_of hr) (pe_disp (pps_cons pe_str pe_int (pps_cons pe_str pe_int (pps_cons pe_str pe_int pps_nil))) (by rfl) (by rfl) (fun z => by cases z) (by decide)) (pe_ix ix_tup (pv 0) pe_int (fun _ _ => rfl)) (fun _ _ => rfl)))))))))), ?_⟩
    intro d nd
    refine ⟨upd_same, [(.inr "none", .int 1), (.inr "next", .int 2), (.inr "stride", .int 2), (.inr "pairs", .int 2), (.inr "both", .int 3)], rfl, by show 5 ≤ 15; decide, ?_⟩
    have s1 : Same H (upd (upd H d (.dK [])) d (.dK (mergeK [] [((.inr "none" : Key), V.int 1), (.inr "next", .int 2), (.inr "stride", .int 2), (.inr "pairs", .int 2), (.inr "both", .int 3)]))) := same_mut (same_upd nd) nd
    have ed : (upd (upd H d (.dK [])) d (.dK (mergeK [] [((.inr "none" : Key), V.int 1), (.inr "next", .int 2), (.inr "stride", .int 2), (.inr "pairs", .int 2), (.inr "both", .int 3)]))) d = some (.dK (mergeK [] [((.inr "none" : Key), V.int 1), (.inr "next", .int 2), (.inr "stride", .int 2), (.inr "pairs", .int 2), (.inr "both", .int 3)])) := upd_same
    have hG1 := hG.same s1
    generalize upd (upd H d (.dK [])) d (.dK (mergeK [] [((.inr "none" : Key), V.int 1), (.inr "next", .int 2), (.inr "stride", .int 2), (.inr "pairs", .int 2), (.inr "both", .int 3)])) = H1 at s1 ed hG1 ⊢
    have ed : H1 d = some (.dK sizeK) := ed
    cases g with
    | nil =>
      obtain ⟨p, rfl, hp⟩ := hG1
      refine ⟨_, rfl, Nat.zero_le _, fun p0 n0 => ?_⟩
      have w0 := same_upd (o := .tup []) n0
      refine ⟨dOg .nil, .tuple [], dp_Og (g := .nil) ⟨p, rfl, same_t w0 hp⟩, .tup (sqt upd_same) .nil, shp_lay (shp_Og hO) (by decide), shp_lay (n := 1) (fun _ h => by cases h) (by decide), ?_⟩
      rw [eqv_nil]
      exact ⟨_, rfl, iteB rfl (iteB rfl (q _ (s1.trans w0)))⟩
    | b1 a =>
      have hG0 := hG1
      obtain ⟨p, x, rfl, hp, _⟩ := hG0
      refine ⟨_, rfl, Nat.zero_le _, fun p0 n0 => ?_⟩
      have w0 := same_upd (o := .tup []) n0
      have e0 : (upd H1 p0 (.tup [])) p0 = some (.tup []) := upd_same
      have hp := same_t w0 hp
      have ed := w0 _ _ ed
      have s2 := s1.trans w0
      have hG2 := hG1.same w0
      generalize upd H1 p0 (.tup []) = H2 at e0 hp ed s2 hG2 w0 ⊢
      refine ⟨dOg _, .tuple [], dp_Og hG2, .tup (sqt e0) .nil, shp_lay (shp_Og hO) (by decide), shp_lay (n := 1) (fun _ h => by cases h) (by decide), ?_⟩
      rw [eqv_nil]
      refine ⟨_, rfl, iteB0 rfl ?_⟩
      refine ⟨_, rfl, d, rfl, .inl ⟨_, .inl ed⟩, _, rfl, _, _, _, _, rfl, rfl, hp, atI_nat (j := 0) rfl, _, DGet.k (k := .inr "both") ed, _, rfl, _, _, rfl, .inr hp, rfl, _, rfl, ?_⟩
      refine iteB (by rw [size_look "both" (by decide)]; rfl) ?_
      exact iteB rfl (q _ s2)
    | b3 a b c =>
      have hG0 := hG1
      obtain ⟨p, x, y, z, rfl, hp, _⟩ := hG0
      refine ⟨_, rfl, Nat.zero_le _, fun p0 n0 => ?_⟩
      have w0 := same_upd (o := .tup []) n0
      have e0 : (upd H1 p0 (.tup [])) p0 = some (.tup []) := upd_same
      have hp := same_t w0 hp
      have ed := w0 _ _ ed
      have s2 := s1.trans w0
      have hG2 := hG1.same w0
      generalize upd H1 p0 (.tup []) = H2 at e0 hp ed s2 hG2 w0 ⊢
      refine ⟨dOg _, .tuple [], dp_Og hG2, .tup (sqt e0) .nil, shp_lay (shp_Og hO) (by decide), shp_lay (n := 1) (fun _ h => by cases h) (by decide), ?_⟩
      rw [eqv_nil]
      refine ⟨_, rfl, iteB0 rfl ?_⟩
      refine ⟨_, rfl, d, rfl, .inl ⟨_, .inl ed⟩, _, rfl, _, _, _, _, rfl, rfl, hp, atI_nat (j := 0) rfl, _, DGet.k (k := .inr "both") ed, _, rfl, _, _, rfl, .inr hp, rfl, _, rfl, ?_⟩
      refine iteB (by rw [size_look "both" (by decide)]; rfl) ?_
      exact iteB rfl (q _ s2)
    | both a b =>
      have hG0 := hG1
      obtain ⟨p, x, y, rfl, hp, ha0, hb0⟩ := hG0
      refine ⟨_, rfl, Nat.zero_le _, fun p0 n0 => ?_⟩
      have w0 := same_upd (o := .tup []) n0
      have e0 : (upd H1 p0 (.tup [])) p0 = some (.tup []) := upd_same
      have hp := same_t w0 hp
      have ed := w0 _ _ ed
      have s2 := s1.trans w0
      have hG2 := hG1.same w0
      generalize upd H1 p0 (.tup []) = H2 at e0 hp ed s2 hG2 w0 ⊢
      refine ⟨dOg _, .tuple [], dp_Og hG2, .tup (sqt e0) .nil, shp_lay (shp_Og hO) (by decide), shp_lay (n := 1) (fun _ h => by cases h) (by decide), ?_⟩
      rw [eqv_nil]
      refine ⟨_, rfl, iteB0 rfl ?_⟩
      refine ⟨_, rfl, d, rfl, .inl ⟨_, .inl ed⟩, _, rfl, _, _, _, _, rfl, rfl, hp, atI_nat (j := 0) rfl, _, DGet.k (k := .inr "both") ed, _, rfl, _, _, rfl, .inr hp, rfl, _, rfl, ?_⟩
      refine iteB0 (by rw [size_look "both" (by decide)]; rfl) ?_
      have ha := ha0.same w0
      have hb := hb0.same w0
      have q' : ∀ H', Same H H' → Q (V.bl (decide (m ≤ 3) && (isG (m + 1) a && isG (m + 1) b))) H' := q
      refine ⟨_, rfl, _, _, rfl, rfl, _, rfl, ?_⟩
      by_cases c : m ≤ 3
      · rw [decide_eq_true c] at q'
        refine iteB0 (decide_eq_false (by omega)) ?_
        have ek : ∀ z : V, ([z, V.int ((m : Int) + 1)] : List V) = [z, V.int ((m + 1 : Nat) : Int)] := fun z => congrArg (fun i : Int => [z, V.int i]) (by omega)
        refine ⟨_, rfl, _, _, _, _, rfl, rfl, hp, atI_nat (j := 0) rfl, rfl, _, rfl, iteB (decide_eq_true rfl) ?_⟩
        refine ⟨_, rfl, _, _, _, _, rfl, rfl, hp, atI_nat (j := 1) rfl, _, rfl, _, _, rfl, rfl, ?_⟩
        refine ⟨x, a, m + 1, ek _, ha, oddG_le (n := 19) hO.1 (by decide), by omega, by omega, fun H3 s3 => ?_⟩
        refine ⟨_, rfl, ?_⟩
        cases ea : isG (m + 1) a with
        | false =>
          refine iteN Bool.false_ne_true ?_
          rw [ea] at q'
          exact q' H3 (s2.trans s3)
        | true =>
          refine iteY rfl ?_
          rw [ea] at q'
          refine ⟨_, rfl, _, _, _, _, rfl, rfl, same_t s3 hp, atI_nat (j := 2) rfl, _, rfl, _, _, rfl, rfl, ?_⟩
          refine ⟨y, b, m + 1, ek _, hb.same s3, oddG_le (n := 19) hO.2 (by decide), by omega, by omega, fun H4 s4 => ?_⟩
          exact q' H4 ((s2.trans s3).trans s4)
      · rw [decide_eq_false c] at q'
        refine iteB (decide_eq_true (by omega)) ?_
        exact q' _ s2
    | leaf x ns =>
      have hG0 := hG1
      obtain ⟨p, rfl, hp⟩ := hG0
      have hO2 : x ∈ wordsL ∧ ns.length ≤ 2 := hO
      have sl := size_look x (List.mem_cons_of_mem _ hO2.1)
      refine ⟨_, rfl, Nat.zero_le _, fun p0 n0 => ?_⟩
      have w0 := same_upd (o := .tup []) n0
      have e0 : (upd H1 p0 (.tup [])) p0 = some (.tup []) := upd_same
      have hp := same_t w0 hp
      have ed := w0 _ _ ed
      have s2 := s1.trans w0
      have hG2 := hG1.same w0
      generalize upd H1 p0 (.tup []) = H2 at e0 hp ed s2 hG2 w0 ⊢
      refine ⟨dOg _, .tuple [], dp_Og hG2, .tup (sqt e0) .nil, shp_lay (shp_Og hO) (by decide), shp_lay (n := 1) (fun _ h => by cases h) (by decide), ?_⟩
      rw [eqv_nil]
      refine ⟨_, rfl, iteB0 rfl ?_⟩
      refine ⟨_, rfl, d, rfl, .inl ⟨_, .inl ed⟩, _, rfl, _, _, _, _, rfl, rfl, hp, atI_nat (j := 0) rfl, _, DGet.k (k := .inr x) ed, _, rfl, _, _, rfl, .inr hp, (by rw [sl]; cases sortsL.lookup x <;> rfl), _, rfl, ?_⟩
      rw [sl]
      have ln : (V.str x :: ns.map V.int).length = ns.length + 1 := by rw [List.length_cons, List.length_map]
      rw [ln]
      cases e : sortsL.lookup x with
      | none =>
        have iG : isG m (.leaf x ns) = false := by unfold isG; rw [e]
        rw [iG] at q
        refine iteB (by show (!decide (V.int 0 = V.int (((ns.length + 1 : Nat)) : Int))) = true; rw [decide_eq_false (fun z => by have := V.int.inj z; omega)]; rfl) ?_
        exact iteB rfl (q _ s2)
      | some k =>
        by_cases ck : ((ns.length : Nat) : Int) + 1 = k
        all_goals first
          | (have iG : isG m (.leaf x ns) = false := by
               unfold isG
               rw [e]
               dsimp only
               rw [decide_eq_false ck]
               rfl
             rw [iG] at q
             refine iteB (by show (!decide (V.int k = V.int (((ns.length + 1 : Nat)) : Int))) = true; rw [decide_eq_false (fun z => ck (by have := V.int.inj z; omega))]; rfl) ?_
             exact iteB rfl (q _ s2))
          | skip
        have iG : isG m (.leaf x ns) = (decide (m ≤ 3) && (decide (x = "none") || numOk x ns)) := by
          unfold isG
          rw [e]
          dsimp only
          rw [decide_eq_true ck, Bool.true_and]
        rw [iG] at q
        refine iteB0 (by show (!decide (V.int k = V.int (((ns.length + 1 : Nat)) : Int))) = false; rw [decide_eq_true (congrArg V.int (by omega))]; rfl) ?_
        refine ⟨_, rfl, _, _, rfl, rfl, _, rfl, ?_⟩
        by_cases c : m ≤ 3
        all_goals first
          | (rw [decide_eq_false c] at q
             refine iteB (decide_eq_true (by omega)) ?_
             exact q _ s2)
          | skip
        rw [decide_eq_true c, Bool.true_and] at q
        refine iteB0 (decide_eq_false (by omega)) ?_
        have xb : x ≠ "both" := fun z => absurd hO2.1 (by rw [z]; decide)
        refine ⟨_, rfl, _, _, _, _, rfl, rfl, hp, atI_nat (j := 0) rfl, rfl, _, rfl, iteB0 (decide_eq_false fun y => xb (V.str.inj y)) ?_⟩
        refine ⟨_, rfl, _, _, _, _, rfl, rfl, hp, atI_nat (j := 0) rfl, rfl, _, rfl, ?_⟩
        by_cases xn : x = "none"
        · rw [decide_eq_true xn, Bool.true_or] at q
          refine iteB (decide_eq_true (congrArg V.str xn)) ?_
          exact q _ s2
        rw [decide_eq_false xn, Bool.false_or] at q
        refine iteB0 (decide_eq_false fun y => xn (V.str.inj y)) ?_
        obtain ⟨k2, mo, ml⟩ := sorts_most e xn xb
        subst k2
        obtain ⟨i, rfl⟩ : ∃ i, ns = [i] := by
          match ns, ck with
          | [i], _ => exact ⟨i, rfl⟩
        have nu : numOk x [i] = (decide (1 ≤ i) && decide (i ≤ mo)) := by unfold numOk; rw [ml]
        rw [nu] at q
        have hv : valV (mergeK [] [((.inr "next" : Key), V.int 3), (.inr "stride", .int 3), (.inr "pairs", .int 2)]) (.inr x) = some (.int mo) := by
          have key : ∀ w ∈ wordsL, valV (mergeK [] [((.inr "next" : Key), V.int 3), (.inr "stride", .int 3), (.inr "pairs", .int 2)]) (.inr w) = (mostL.lookup w).map V.int := by decide +kernel
          rw [key x hO2.1, ml]
          rfl
        refine ⟨_, rfl, _, _, _, _, rfl, rfl, hp, atI_nat (j := 1) rfl, _, _, rfl, rfl, _, rfl, ?_⟩
        by_cases c2 : 1 ≤ i
        · rw [decide_eq_true c2, Bool.true_and] at q
          refine iteB (decide_eq_true c2) ?_
          intro d2 nd2
          refine ⟨upd_same, [(.inr "next", .int 3), (.inr "stride", .int 3), (.inr "pairs", .int 2)], rfl, by show 3 ≤ 15; decide, ?_⟩
          have s3 : Same H2 (upd (upd H2 d2 (.dK [])) d2 (.dK (mergeK [] [((.inr "next" : Key), V.int 3), (.inr "stride", .int 3), (.inr "pairs", .int 2)]))) := same_mut (same_upd nd2) nd2
          have ed2 : (upd (upd H2 d2 (.dK [])) d2 (.dK (mergeK [] [((.inr "next" : Key), V.int 3), (.inr "stride", .int 3), (.inr "pairs", .int 2)]))) d2 = some (.dK (mergeK [] [((.inr "next" : Key), V.int 3), (.inr "stride", .int 3), (.inr "pairs", .int 2)])) := upd_same
          generalize upd (upd H2 d2 (.dK [])) d2 (.dK (mergeK [] [((.inr "next" : Key), V.int 3), (.inr "stride", .int 3), (.inr "pairs", .int 2)])) = H3 at s3 ed2 ⊢
          refine ⟨_, rfl, _, _, _, _, rfl, rfl, same_t s3 hp, atI_nat (j := 0) rfl, d2, _, rfl, by rw [← hv]; exact DGet.k (k := .inr x) ed2, ?_⟩
          exact ⟨_, _, rfl, rfl, q _ (s2.trans s3)⟩
        · rw [decide_eq_false c2, Bool.false_and] at q
          refine iteB0 (decide_eq_false c2) ?_
          exact q _ s2
end
end St

namespace St
open PySem PySem.Spec PyProof.Rows L2
abbrev s__law_odd_guesser : Stmt := topS 64
abbrev N__law_odd_guesser : List Str := ["_law_row", "_law_good", "_law_far", "_law_some", "_law_deep", "_law_k", "_law_odd"]
abbrev p__law_odd_guesser : List Str := ["_law_row"]
theorem sc__law_odd_guesser : FnScope N__law_odd_guesser p__law_odd_guesser (defScope s__law_odd_guesser) := ⟨rfl, rfl, rfl, by decide +kernel, rfl, by decide +kernel, by decide +kernel⟩
def AllO (K : PySem.W.Frag) (H : Hp) (n : Nat) (vs : List V) : Prop := ∀ v ∈ vs, ∃ g, IsG K H g v ∧ OddG n g
theorem AllO.imm {K : PySem.W.Frag} {H H' : Hp} {n : Nat} {vs : List V} (h : AllO K H n vs) (e : Imm H H') : AllO K H' n vs := fun v hv => let ⟨g, a, b⟩ := h v hv; ⟨g, a.imm e, b⟩
theorem leaf_g {K : PySem.W.Frag} {H : Hp} {p : Addr} {w : Str} {ns : List Int} (h : SqT K H p (.str w :: ns.map V.int)) : IsG K H (.leaf w ns) (.ref p) := ⟨p, rfl, h⟩
theorem wordO {n : Nat} {w : Str} {ns : List Int} (h : w ∈ wordsL) (l : ns.length ≤ 2) : OddG n (.leaf w ns) := by cases n <;> exact ⟨h, l⟩
section
variable {P : Program} {w : World} {K : PySem.W.Frag} {mg : Str → Option Value} {base : Heap} {f fT : Addr} {fd fdT : FuncData}
def spOdG (K : PySem.W.Frag) : Sp := fun vs H Q _ => ∃ (r : Addr), vs = [.ref r] ∧ Row K H r ∧ ∀ (g : G) (v : V) H', SameX r H H' → Row K H' r → IsG K H' g v → OddG 20 g → Q v H'
theorem ok__law_odd_guesser (T : Nms mg) (D__law_taken : Df K mg "_law_taken" s__law_taken p__law_taken fT fdT) (F : Fun K "_law_odd_guesser" "_law_odd_guesser" s__law_odd_guesser f fd) : FnOk P w K mg base CX0 2 f fd p__law_odd_guesser (spOdG K) := by
  have G__law_taken : FnOk P w K mg base CX0 1 fT fdT p__law_taken (spTaken K) := ok__law_taken D__law_taken.F T
  refine F.ok sc__law_odd_guesser (fun vs H Q E h => ?_) (fun cdv A outer s H vs Q E hr h => ?_)
  · obtain ⟨r, rfl, _⟩ := h
    rfl
  obtain ⟨r, rfl, hR, q⟩ := h
  refine ⟨_, (pss_cons (ps_set (i := 1) sc__law_odd_guesser.nd rfl (Or.inl rfl) (pe_tup (pa_cons pe_str (pa_cons pe_int pa_nil))))
  (pss_cons (ps_set (i := 2) sc__law_odd_guesser.nd rfl (Or.inl rfl) (pe_op op_add pe_int (pe_call G__law_taken (hr.mono (by first | decide | omega)) (by rfl) D__law_taken.m D__law_taken.F.kp D__law_taken.b .nil pass0 (pa_cons (pv 0) (pa_cons pe_int pa_nil)))))
  (pss_cons (ps_set (i := 3) sc__law_odd_guesser.nd rfl (Or.inl rfl) (pe_lst (pa_cons (pe_tup pa_nil) (pa_cons (pe_tup (pa_cons pe_str (pa_cons pe_int pa_nil))) (pa_cons (pe_tup (pa_cons pe_str pa_nil)) (pa_cons (pe_tup (pa_cons pe_str (pa_cons pe_int pa_nil))) (pa_cons (pe_tup (pa_cons pe_str (pa_cons (pe_op op_add pe_int (pv 2)) pa_nil))) (pa_cons (pe_tup (pa_cons pe_str (pa_cons (pe_op op_sub pe_int (pv 2)) pa_nil))) (pa_cons (pe_tup (pa_cons pe_str (pa_cons (pe_op op_add pe_int (pv 2)) pa_nil))) pa_nil)))))))))
  (pss_cons (ps_set (i := 3) sc__law_odd_guesser.nd rfl (Or.inl rfl) (pe_op op_cat (pv 3) (pe_lst (pa_cons (pe_tup (pa_cons pe_str (pa_cons pe_int pa_nil))) (pa_cons (pe_tup (pa_cons pe_str (pa_cons (pv 2) pa_nil))) (pa_cons (pe_tup (pa_cons pe_str (pa_cons pe_int pa_nil))) (pa_cons (pe_tup (pa_cons pe_str (pa_cons (pv 1) pa_nil))) (pa_cons (pe_tup (pa_cons pe_str (pa_cons (pv 1) (pa_cons (pv 1) (pa_cons (pv 1) pa_nil))))) pa_nil))))))))
  (pss_cons (ps_set (i := 3) sc__law_odd_guesser.nd rfl (Or.inl rfl) (pe_op op_cat (pv 3) (pe_lst (pa_cons (pe_tup (pa_cons pe_str (pa_cons pe_int pa_nil))) (pa_cons (pe_tup (pa_cons pe_str (pa_cons pe_int (pa_cons pe_int pa_nil)))) pa_nil)))))
  (pss_cons (ps_set (i := 4) sc__law_odd_guesser.nd rfl (Or.inl rfl) (pv 1))
  (pss_cons (ps_for PassesOwn.never rfl (pi_range1 rfl T.n_range (pa_cons (pe_op op_add pe_int (pe_call G__law_taken (hr.mono (by first | decide | omega)) (by rfl) D__law_taken.m D__law_taken.F.kp D__law_taken.b .nil pass0 (pa_cons (pv 0) (pa_cons pe_int pa_nil)))) pa_nil)) (pg_name (i := 5) sc__law_odd_guesser.nd rfl (Or.inl rfl))
    (pss_one (ps_set (i := 4) sc__law_odd_guesser.nd rfl (Or.inl rfl) (pe_ix ix_list (pe_lst (pa_cons (pe_tup (pa_cons pe_str (pa_cons (pv 4) (pa_cons (pv 1) pa_nil)))) (pa_cons (pe_tup (pa_cons pe_str (pa_cons (pe_tup (pa_cons pe_str pa_nil)) (pa_cons (pv 4) pa_nil)))) pa_nil))) (pe_call G__law_taken (hr.mono (by first | decide | omega)) (by rfl) D__law_taken.m D__law_taken.F.kp D__law_taken.b .nil pass0 (pa_cons (pv 0) (pa_cons pe_int pa_nil))) (fun _ _ => rfl)))))
  (pss_cons (ps_set (i := 6) sc__law_odd_guesser.nd rfl (Or.inl rfl) (pe_ix ix_list (pe_op op_cat (pv 3) (pe_lst (pa_cons (pv 4) (pa_cons (pv 1) pa_nil)))) (pe_call G__law_taken (hr.mono (by first | decide | omega)) (by rfl) D__law_taken.m D__law_taken.F.kp D__law_taken.b .nil pass0 (pa_cons (pv 0) (pa_cons pe_int pa_nil))) (fun _ _ => rfl)))
  (pss_cons (ps_for PassesOwn.never rfl (pi_range1 rfl T.n_range (pa_cons (pe_call G__law_taken (hr.mono (by first | decide | omega)) (by rfl) D__law_taken.m D__law_taken.F.kp D__law_taken.b .nil pass0 (pa_cons (pv 0) (pa_cons pe_int pa_nil))) pa_nil)) (pg_name (i := 5) sc__law_odd_guesser.nd rfl (Or.inl rfl))
    (pss_one (ps_set (i := 6) sc__law_odd_guesser.nd rfl (Or.inl rfl) (pe_ix ix_list (pe_lst (pa_cons (pe_tup (pa_cons pe_str (pa_cons (pv 6) (pa_cons (pv 1) pa_nil)))) (pa_cons (pe_tup (pa_cons pe_str (pa_cons (pv 1) (pa_cons (pv 6) pa_nil)))) pa_nil))) (pe_call G__law_taken (hr.mono (by first | decide | omega)) (by rfl) D__law_taken.m D__law_taken.F.kp D__law_taken.b .nil pass0 (pa_cons (pv 0) (pa_cons pe_int pa_nil))) (fun _ _ => rfl)))))
  (pss_one (ps_ret (pv 6)))))))))))), ?_⟩
  refine ⟨sz_2, fun t0 n0 => ?_⟩
  have w0 := same_upd (o := .tup [.str "next", .int 1]) n0
  have g0 : IsG K (upd H t0 (.tup [.str "next", .int 1])) (.leaf "next" [1]) (.ref t0) := leaf_g (sqt upd_same)
  have R0 := hR.same w0
  generalize upd H t0 (.tup [.str "next", .int 1]) = H0 at w0 g0 R0 ⊢
  refine ⟨_, rfl, r, 1000, rfl, R0, by decide, fun x H1 x0 x1 s1 R1 => ?_⟩
  refine ⟨_, _, rfl, rfl, ?_⟩
  have sx := (SameX.of w0).trans s1
  have g0 := g0.imm (Imm.sameX s1 R0.at_)
  have v := Same.refl H1
  refine ⟨Nat.zero_le _, fun t1 n1 => ?_⟩
  have w1 := same_upd (o := .tup []) n1
  have v := v.trans w1
  have g0 := g0.same w1
  have g1 : IsG K (upd H1 t1 (.tup [])) .nil (.ref t1) := ⟨_, rfl, sqt upd_same⟩
  generalize upd H1 t1 (.tup []) = B1 at w1 v g0 g1  ⊢
  refine ⟨sz_2, fun t2 n2 => ?_⟩
  have w2 := same_upd (o := .tup [.str "none", .int 1]) n2
  have v := v.trans w2
  have g0 := g0.same w2
  have g1 := g1.same w2
  have g2 : IsG K (upd B1 t2 (.tup [.str "none", .int 1])) (.leaf "none" [1]) (.ref t2) := leaf_g (sqt upd_same)
  generalize upd B1 t2 (.tup [.str "none", .int 1]) = B2 at w2 v g0 g1 g2  ⊢
  refine ⟨sz_1, fun t3 n3 => ?_⟩
  have w3 := same_upd (o := .tup [.str "next"]) n3
  have v := v.trans w3
  have g0 := g0.same w3
  have g1 := g1.same w3
  have g2 := g2.same w3
  have g3 : IsG K (upd B2 t3 (.tup [.str "next"])) (.leaf "next" []) (.ref t3) := leaf_g (sqt upd_same)
  generalize upd B2 t3 (.tup [.str "next"]) = B3 at w3 v g0 g1 g2 g3  ⊢
  refine ⟨sz_2, fun t4 n4 => ?_⟩
  have w4 := same_upd (o := .tup [.str "next", .int 0]) n4
  have v := v.trans w4
  have g0 := g0.same w4
  have g1 := g1.same w4
  have g2 := g2.same w4
  have g3 := g3.same w4
  have g4 : IsG K (upd B3 t4 (.tup [.str "next", .int 0])) (.leaf "next" [0]) (.ref t4) := leaf_g (sqt upd_same)
  generalize upd B3 t4 (.tup [.str "next", .int 0]) = B4 at w4 v g0 g1 g2 g3 g4  ⊢
  refine ⟨_, rfl, _, _, rfl, rfl, sz_2, fun t5 n5 => ?_⟩
  have w5 := same_upd (o := .tup [.str "next", .int (1 + (3 + x))]) n5
  have v := v.trans w5
  have g0 := g0.same w5
  have g1 := g1.same w5
  have g2 := g2.same w5
  have g3 := g3.same w5
  have g4 := g4.same w5
  have g5 : IsG K (upd B4 t5 (.tup [.str "next", .int (1 + (3 + x))])) (.leaf "next" [1 + (3 + x)]) (.ref t5) := leaf_g (sqt upd_same)
  generalize upd B4 t5 (.tup [.str "next", .int (1 + (3 + x))]) = B5 at w5 v g0 g1 g2 g3 g4 g5  ⊢
  refine ⟨_, rfl, _, _, rfl, rfl, sz_2, fun t6 n6 => ?_⟩
  have w6 := same_upd (o := .tup [.str "stride", .int (0 - (3 + x))]) n6
  have v := v.trans w6
  have g0 := g0.same w6
  have g1 := g1.same w6
  have g2 := g2.same w6
  have g3 := g3.same w6
  have g4 := g4.same w6
  have g5 := g5.same w6
  have g6 : IsG K (upd B5 t6 (.tup [.str "stride", .int (0 - (3 + x))])) (.leaf "stride" [0 - (3 + x)]) (.ref t6) := leaf_g (sqt upd_same)
  generalize upd B5 t6 (.tup [.str "stride", .int (0 - (3 + x))]) = B6 at w6 v g0 g1 g2 g3 g4 g5 g6  ⊢
  refine ⟨_, rfl, _, _, rfl, rfl, sz_2, fun t7 n7 => ?_⟩
  have w7 := same_upd (o := .tup [.str "stride", .int (1 + (3 + x))]) n7
  have v := v.trans w7
  have g0 := g0.same w7
  have g1 := g1.same w7
  have g2 := g2.same w7
  have g3 := g3.same w7
  have g4 := g4.same w7
  have g5 := g5.same w7
  have g6 := g6.same w7
  have g7 : IsG K (upd B6 t7 (.tup [.str "stride", .int (1 + (3 + x))])) (.leaf "stride" [1 + (3 + x)]) (.ref t7) := leaf_g (sqt upd_same)
  generalize upd B6 t7 (.tup [.str "stride", .int (1 + (3 + x))]) = B7 at w7 v g0 g1 g2 g3 g4 g5 g6 g7  ⊢
  refine ⟨sz_7, fun t8 n8 => ?_⟩
  have w8 := same_upd (o := .lst [.ref t1, .ref t2, .ref t3, .ref t4, .ref t5, .ref t6, .ref t7]) n8
  have v := v.trans w8
  have g0 := g0.same w8
  have g1 := g1.same w8
  have g2 := g2.same w8
  have g3 := g3.same w8
  have g4 := g4.same w8
  have g5 := g5.same w8
  have g6 := g6.same w8
  have g7 := g7.same w8
  have l8 : (upd B7 t8 (.lst [.ref t1, .ref t2, .ref t3, .ref t4, .ref t5, .ref t6, .ref t7])) t8 = some (.lst [.ref t1, .ref t2, .ref t3, .ref t4, .ref t5, .ref t6, .ref t7]) := upd_same
  generalize upd B7 t8 (.lst [.ref t1, .ref t2, .ref t3, .ref t4, .ref t5, .ref t6, .ref t7]) = B8 at w8 v g0 g1 g2 g3 g4 g5 g6 g7 l8 ⊢
  refine ⟨_, rfl, sz_2, fun t9 n9 => ?_⟩
  have w9 := same_upd (o := .tup [.str "pair", .int 1]) n9
  have v := v.trans w9
  have g0 := g0.same w9
  have g1 := g1.same w9
  have g2 := g2.same w9
  have g3 := g3.same w9
  have g4 := g4.same w9
  have g5 := g5.same w9
  have g6 := g6.same w9
  have g7 := g7.same w9
  have l8 := w9 _ _ l8
  have g9 : IsG K (upd B8 t9 (.tup [.str "pair", .int 1])) (.leaf "pair" [1]) (.ref t9) := leaf_g (sqt upd_same)
  generalize upd B8 t9 (.tup [.str "pair", .int 1]) = B9 at w9 v g0 g1 g2 g3 g4 g5 g6 g7 g9 l8 ⊢
  refine ⟨_, rfl, sz_2, fun t10 n10 => ?_⟩
  have w10 := same_upd (o := .tup [.str "pairs", .int (3 + x)]) n10
  have v := v.trans w10
  have g0 := g0.same w10
  have g1 := g1.same w10
  have g2 := g2.same w10
  have g3 := g3.same w10
  have g4 := g4.same w10
  have g5 := g5.same w10
  have g6 := g6.same w10
  have g7 := g7.same w10
  have g9 := g9.same w10
  have l8 := w10 _ _ l8
  have g10 : IsG K (upd B9 t10 (.tup [.str "pairs", .int (3 + x)])) (.leaf "pairs" [3 + x]) (.ref t10) := leaf_g (sqt upd_same)
  generalize upd B9 t10 (.tup [.str "pairs", .int (3 + x)]) = B10 at w10 v g0 g1 g2 g3 g4 g5 g6 g7 g9 g10 l8 ⊢
  refine ⟨sz_2, fun t11 n11 => ?_⟩
  have w11 := same_upd (o := .tup [.str "pairs", .int 0]) n11
  have v := v.trans w11
  have g0 := g0.same w11
  have g1 := g1.same w11
  have g2 := g2.same w11
  have g3 := g3.same w11
  have g4 := g4.same w11
  have g5 := g5.same w11
  have g6 := g6.same w11
  have g7 := g7.same w11
  have g9 := g9.same w11
  have g10 := g10.same w11
  have l8 := w11 _ _ l8
  have g11 : IsG K (upd B10 t11 (.tup [.str "pairs", .int 0])) (.leaf "pairs" [0]) (.ref t11) := leaf_g (sqt upd_same)
  generalize upd B10 t11 (.tup [.str "pairs", .int 0]) = B11 at w11 v g0 g1 g2 g3 g4 g5 g6 g7 g9 g10 g11 l8 ⊢
  refine ⟨_, rfl, sz_2, fun t12 n12 => ?_⟩
  have w12 := same_upd (o := .tup [.str "both", .ref t0]) n12
  have v := v.trans w12
  have g0 := g0.same w12
  have g1 := g1.same w12
  have g2 := g2.same w12
  have g3 := g3.same w12
  have g4 := g4.same w12
  have g5 := g5.same w12
  have g6 := g6.same w12
  have g7 := g7.same w12
  have g9 := g9.same w12
  have g10 := g10.same w12
  have g11 := g11.same w12
  have l8 := w12 _ _ l8
  have g12 : IsG K (upd B11 t12 (.tup [.str "both", .ref t0])) (.b1 (.leaf "next" [1])) (.ref t12) := ⟨_, _, rfl, sqt upd_same, g0⟩
  generalize upd B11 t12 (.tup [.str "both", .ref t0]) = B12 at w12 v g0 g1 g2 g3 g4 g5 g6 g7 g9 g10 g11 g12 l8 ⊢
  refine ⟨_, rfl, _, rfl, _, rfl, sz_4, fun t13 n13 => ?_⟩
  have w13 := same_upd (o := .tup [.str "both", .ref t0, .ref t0, .ref t0]) n13
  have v := v.trans w13
  have g0 := g0.same w13
  have g1 := g1.same w13
  have g2 := g2.same w13
  have g3 := g3.same w13
  have g4 := g4.same w13
  have g5 := g5.same w13
  have g6 := g6.same w13
  have g7 := g7.same w13
  have g9 := g9.same w13
  have g10 := g10.same w13
  have g11 := g11.same w13
  have g12 := g12.same w13
  have l8 := w13 _ _ l8
  have g13 : IsG K (upd B12 t13 (.tup [.str "both", .ref t0, .ref t0, .ref t0])) (.b3 (.leaf "next" [1]) (.leaf "next" [1]) (.leaf "next" [1])) (.ref t13) := ⟨_, _, _, _, rfl, sqt upd_same, g0, g0, g0⟩
  generalize upd B12 t13 (.tup [.str "both", .ref t0, .ref t0, .ref t0]) = B13 at w13 v g0 g1 g2 g3 g4 g5 g6 g7 g9 g10 g11 g12 g13 l8 ⊢
  refine ⟨sz_5, fun t14 n14 => ?_⟩
  have w14 := same_upd (o := .lst [.ref t9, .ref t10, .ref t11, .ref t12, .ref t13]) n14
  have v := v.trans w14
  have g0 := g0.same w14
  have g1 := g1.same w14
  have g2 := g2.same w14
  have g3 := g3.same w14
  have g4 := g4.same w14
  have g5 := g5.same w14
  have g6 := g6.same w14
  have g7 := g7.same w14
  have g9 := g9.same w14
  have g10 := g10.same w14
  have g11 := g11.same w14
  have g12 := g12.same w14
  have g13 := g13.same w14
  have l8 := w14 _ _ l8
  have l14 : (upd B13 t14 (.lst [.ref t9, .ref t10, .ref t11, .ref t12, .ref t13])) t14 = some (.lst [.ref t9, .ref t10, .ref t11, .ref t12, .ref t13]) := upd_same
  generalize upd B13 t14 (.lst [.ref t9, .ref t10, .ref t11, .ref t12, .ref t13]) = B14 at w14 v g0 g1 g2 g3 g4 g5 g6 g7 g9 g10 g11 g12 g13 l8 l14 ⊢
  refine ⟨t8, t14, _, _, rfl, rfl, l8, l14, sz (by show 7 + 5 ≤ _; decide), fun t15 n15 => ?_⟩
  have w15 := same_upd (o := .lst ([.ref t1, .ref t2, .ref t3, .ref t4, .ref t5, .ref t6, .ref t7] ++ [.ref t9, .ref t10, .ref t11, .ref t12, .ref t13])) n15
  have v := v.trans w15
  have g0 := g0.same w15
  have g1 := g1.same w15
  have g2 := g2.same w15
  have g3 := g3.same w15
  have g4 := g4.same w15
  have g5 := g5.same w15
  have g6 := g6.same w15
  have g7 := g7.same w15
  have g9 := g9.same w15
  have g10 := g10.same w15
  have g11 := g11.same w15
  have g12 := g12.same w15
  have g13 := g13.same w15
  have l8 := w15 _ _ l8
  have l14 := w15 _ _ l14
  have l15 : (upd B14 t15 (.lst ([.ref t1, .ref t2, .ref t3, .ref t4, .ref t5, .ref t6, .ref t7] ++ [.ref t9, .ref t10, .ref t11, .ref t12, .ref t13]))) t15 = some (.lst ([.ref t1, .ref t2, .ref t3, .ref t4, .ref t5, .ref t6, .ref t7] ++ [.ref t9, .ref t10, .ref t11, .ref t12, .ref t13])) := upd_same
  generalize upd B14 t15 (.lst ([.ref t1, .ref t2, .ref t3, .ref t4, .ref t5, .ref t6, .ref t7] ++ [.ref t9, .ref t10, .ref t11, .ref t12, .ref t13])) = B15 at w15 v g0 g1 g2 g3 g4 g5 g6 g7 g9 g10 g11 g12 g13 l8 l14 l15 ⊢
  refine ⟨_, rfl, sz_2, fun t16 n16 => ?_⟩
  have w16 := same_upd (o := .tup [.str "Next", .int 1]) n16
  have v := v.trans w16
  have g0 := g0.same w16
  have g1 := g1.same w16
  have g2 := g2.same w16
  have g3 := g3.same w16
  have g4 := g4.same w16
  have g5 := g5.same w16
  have g6 := g6.same w16
  have g7 := g7.same w16
  have g9 := g9.same w16
  have g10 := g10.same w16
  have g11 := g11.same w16
  have g12 := g12.same w16
  have g13 := g13.same w16
  have l8 := w16 _ _ l8
  have l14 := w16 _ _ l14
  have l15 := w16 _ _ l15
  have g16 : IsG K (upd B15 t16 (.tup [.str "Next", .int 1])) (.leaf "Next" [1]) (.ref t16) := leaf_g (sqt upd_same)
  generalize upd B15 t16 (.tup [.str "Next", .int 1]) = B16 at w16 v g0 g1 g2 g3 g4 g5 g6 g7 g9 g10 g11 g12 g13 g16 l8 l14 l15 ⊢
  refine ⟨sz_3, fun t17 n17 => ?_⟩
  have w17 := same_upd (o := .tup [.str "next", .int 1, .int 1]) n17
  have v := v.trans w17
  have g0 := g0.same w17
  have g1 := g1.same w17
  have g2 := g2.same w17
  have g3 := g3.same w17
  have g4 := g4.same w17
  have g5 := g5.same w17
  have g6 := g6.same w17
  have g7 := g7.same w17
  have g9 := g9.same w17
  have g10 := g10.same w17
  have g11 := g11.same w17
  have g12 := g12.same w17
  have g13 := g13.same w17
  have g16 := g16.same w17
  have l8 := w17 _ _ l8
  have l14 := w17 _ _ l14
  have l15 := w17 _ _ l15
  have g17 : IsG K (upd B16 t17 (.tup [.str "next", .int 1, .int 1])) (.leaf "next" [1, 1]) (.ref t17) := leaf_g (sqt upd_same)
  generalize upd B16 t17 (.tup [.str "next", .int 1, .int 1]) = B17 at w17 v g0 g1 g2 g3 g4 g5 g6 g7 g9 g10 g11 g12 g13 g16 g17 l8 l14 l15 ⊢
  refine ⟨sz_2, fun t18 n18 => ?_⟩
  have w18 := same_upd (o := .lst [.ref t16, .ref t17]) n18
  have v := v.trans w18
  have g0 := g0.same w18
  have g1 := g1.same w18
  have g2 := g2.same w18
  have g3 := g3.same w18
  have g4 := g4.same w18
  have g5 := g5.same w18
  have g6 := g6.same w18
  have g7 := g7.same w18
  have g9 := g9.same w18
  have g10 := g10.same w18
  have g11 := g11.same w18
  have g12 := g12.same w18
  have g13 := g13.same w18
  have g16 := g16.same w18
  have g17 := g17.same w18
  have l8 := w18 _ _ l8
  have l14 := w18 _ _ l14
  have l15 := w18 _ _ l15
  have l18 : (upd B17 t18 (.lst [.ref t16, .ref t17])) t18 = some (.lst [.ref t16, .ref t17]) := upd_same
  generalize upd B17 t18 (.lst [.ref t16, .ref t17]) = B18 at w18 v g0 g1 g2 g3 g4 g5 g6 g7 g9 g10 g11 g12 g13 g16 g17 l8 l14 l15 l18 ⊢
  refine ⟨t15, t18, _, _, rfl, rfl, l15, l18, sz (by show 12 + 2 ≤ _; decide), fun t19 n19 => ?_⟩
  have w19 := same_upd (o := .lst ([.ref t1, .ref t2, .ref t3, .ref t4, .ref t5, .ref t6, .ref t7] ++ [.ref t9, .ref t10, .ref t11, .ref t12, .ref t13] ++ [.ref t16, .ref t17])) n19
  have v := v.trans w19
  have g0 := g0.same w19
  have g1 := g1.same w19
  have g2 := g2.same w19
  have g3 := g3.same w19
  have g4 := g4.same w19
  have g5 := g5.same w19
  have g6 := g6.same w19
  have g7 := g7.same w19
  have g9 := g9.same w19
  have g10 := g10.same w19
  have g11 := g11.same w19
  have g12 := g12.same w19
  have g13 := g13.same w19
  have g16 := g16.same w19
  have g17 := g17.same w19
  have l8 := w19 _ _ l8
  have l14 := w19 _ _ l14
  have l15 := w19 _ _ l15
  have l18 := w19 _ _ l18
  have l19 : (upd B18 t19 (.lst ([.ref t1, .ref t2, .ref t3, .ref t4, .ref t5, .ref t6, .ref t7] ++ [.ref t9, .ref t10, .ref t11, .ref t12, .ref t13] ++ [.ref t16, .ref t17]))) t19 = some (.lst ([.ref t1, .ref t2, .ref t3, .ref t4, .ref t5, .ref t6, .ref t7] ++ [.ref t9, .ref t10, .ref t11, .ref t12, .ref t13] ++ [.ref t16, .ref t17])) := upd_same
  generalize upd B18 t19 (.lst ([.ref t1, .ref t2, .ref t3, .ref t4, .ref t5, .ref t6, .ref t7] ++ [.ref t9, .ref t10, .ref t11, .ref t12, .ref t13] ++ [.ref t16, .ref t17])) = B19 at w19 v g0 g1 g2 g3 g4 g5 g6 g7 g9 g10 g11 g12 g13 g16 g17 l8 l14 l15 l18 l19 ⊢
  have ao : AllO K B19 4 ([.ref t1, .ref t2, .ref t3, .ref t4, .ref t5, .ref t6, .ref t7] ++ [.ref t9, .ref t10, .ref t11, .ref t12, .ref t13] ++ [.ref t16, .ref t17] : List V) := fun y hy => by
    simp only [List.mem_append, List.mem_cons, List.not_mem_nil, or_false] at hy
    rcases hy with ((rfl | rfl | rfl | rfl | rfl | rfl | rfl) | (rfl | rfl | rfl | rfl | rfl)) | (rfl | rfl)
    · exact ⟨_, g1, True.intro⟩
    · exact ⟨_, g2, wordO (by decide) (by show 1 ≤ 2; decide)⟩
    · exact ⟨_, g3, wordO (by decide) (by show 0 ≤ 2; decide)⟩
    · exact ⟨_, g4, wordO (by decide) (by show 1 ≤ 2; decide)⟩
    · exact ⟨_, g5, wordO (by decide) (by show 1 ≤ 2; decide)⟩
    · exact ⟨_, g6, wordO (by decide) (by show 1 ≤ 2; decide)⟩
    · exact ⟨_, g7, wordO (by decide) (by show 1 ≤ 2; decide)⟩
    · exact ⟨_, g9, wordO (by decide) (by show 1 ≤ 2; decide)⟩
    · exact ⟨_, g10, wordO (by decide) (by show 1 ≤ 2; decide)⟩
    · exact ⟨_, g11, wordO (by decide) (by show 1 ≤ 2; decide)⟩
    · exact ⟨_, g12, (wordO (n := 3) (by decide) (by show 1 ≤ 2; decide) : OddG 3 (.leaf "next" [1]))⟩
    · exact ⟨_, g13, ⟨wordO (by decide) (by show 1 ≤ 2; decide), wordO (by decide) (by show 1 ≤ 2; decide), wordO (by decide) (by show 1 ≤ 2; decide)⟩⟩
    · exact ⟨_, g16, wordO (by decide) (by show 1 ≤ 2; decide)⟩
    · exact ⟨_, g17, wordO (by decide) (by show 2 ≤ 2; decide)⟩
  have lv : ([.ref t1, .ref t2, .ref t3, .ref t4, .ref t5, .ref t6, .ref t7] ++ [.ref t9, .ref t10, .ref t11, .ref t12, .ref t13] ++ [.ref t16, .ref t17] : List V).length = 14 := rfl
  generalize ([.ref t1, .ref t2, .ref t3, .ref t4, .ref t5, .ref t6, .ref t7] ++ [.ref t9, .ref t10, .ref t11, .ref t12, .ref t13] ++ [.ref t16, .ref t17] : List V) = sv at ao lv l19
  have RS := R1.same v
  have gg := g0
  have eS := l19
  have sx := sx.trans (SameX.of v)
  generalize t19 = S at eS
  have Sr : S ≠ r := fun z => by
    obtain ⟨sc, nsc, i0, si, hrow, _⟩ := RS
    rw [← z, eS] at hrow
    have := congrArg (fun o => match o with | some (HO.lst l) => l.length | _ => 0) hrow
    have h2 : sv.length = 3 := this
    omega
  clear g0 g1 g2 g3 g4 g5 g6 g7 g9 g10 g11 g12 g13 g16 g17 l8 l14 l15 l18 l19 w1 w2 w3 w4 w5 w6 w7 w8 w9 w10 w11 w12 w13 w14 w15 w16 w17 w18 w19 n1 n2 n3 n4 n5 n6 n7 n8 n9 n10 n11 n12 n13 n14 n15 n16 n17 n18 n19 v R1 R0 w0 s1 n0 x0 x1
  refine ⟨_, rfl, _, rfl, r, 2, rfl, RS, by decide, fun y H2 y0 y1 s2 R2 => ?_⟩
  have gg := gg.imm (Imm.sameX s2 RS.at_)
  have ao := ao.imm (Imm.sameX s2 RS.at_)
  have eS := s2 _ _ Sr eS
  have sx := sx.trans s2
  clear RS s2
  refine ⟨_, _, rfl, rfl, _, rfl, by omega, by omega, ?_⟩
  refine for_range (lo := 0) (n := (3 + y).toNat) (fun i σ H' => ∃ (dv : V) (dg : G) (y5 : Option V), σ = [some (.ref r), some (.ref t0), some (.int (3 + x)), some (.ref S), some dv, y5, none] ∧ IsG K H' dg dv ∧ OddG i dg ∧ IsG K H' (.leaf "next" [1]) (.ref t0) ∧ AllO K H' 4 sv ∧ H' S = some (.lst sv) ∧ SameX r H H' ∧ Row K H' r)
    ⟨.ref t0, .leaf "next" [1], none, rfl, gg, wordO (by decide) (by show 1 ≤ 2; decide), gg, ao, eS, sx, R2⟩ (fun i σ H3 hi h => ?_) (fun σ H3 h => ?_)
  · clear gg ao eS sx R2
    obtain ⟨dv, dg, y5, rfl, hd, od, gg, ao, eS, sx, R2⟩ := h
    refine ⟨_, rfl, _, rfl, sz_3, fun p1 m1 => ?_⟩
    have w1 := same_upd (o := .tup [.str "both", dv, .ref t0]) m1
    have q1 : IsG K (upd H3 p1 (.tup [.str "both", dv, .ref t0])) (.both dg (.leaf "next" [1])) (.ref p1) := ⟨_, _, _, rfl, sqt upd_same, hd.same w1, gg.same w1⟩
    generalize upd H3 p1 (.tup [.str "both", dv, .ref t0]) = C1 at w1 q1 ⊢
    refine ⟨sz_1, fun p2 m2 => ?_⟩
    have w2 := same_upd (o := .tup [.str "none"]) m2
    have q2 : IsG K (upd C1 p2 (.tup [.str "none"])) (.leaf "none" []) (.ref p2) := leaf_g (sqt upd_same)
    have q1 := q1.same w2
    generalize upd C1 p2 (.tup [.str "none"]) = C2 at w2 q1 q2 ⊢
    refine ⟨_, rfl, sz_3, fun p3 m3 => ?_⟩
    have w3 := same_upd (o := .tup [.str "both", .ref p2, dv]) m3
    have q3 : IsG K (upd C2 p3 (.tup [.str "both", .ref p2, dv])) (.both (.leaf "none" []) dg) (.ref p3) := ⟨_, _, _, rfl, sqt upd_same, q2.same w3, hd.same ((w1.trans w2).trans w3)⟩
    have q1 := q1.same w3
    generalize upd C2 p3 (.tup [.str "both", .ref p2, dv]) = C3 at w3 q1 q3 ⊢
    refine ⟨sz_2, fun l4 m4 => ?_⟩
    have w4 := same_upd (o := .lst [.ref p1, .ref p3]) m4
    have e4 : (upd C3 l4 (.lst [.ref p1, .ref p3])) l4 = some (.lst [.ref p1, .ref p3]) := upd_same
    have q1 := q1.same w4
    have q3 := q3.same w4
    have v4 := ((w1.trans w2).trans w3).trans w4
    have R4 := R2.same v4
    have r4 := (R2.same ((w1.trans w2).trans w3)).nr m4
    generalize upd C3 l4 (.lst [.ref p1, .ref p3]) = C4 at w4 q1 q3 e4 v4 R4 ⊢
    refine ⟨_, rfl, r, 2, rfl, R4, by decide, fun u C5 u0 u1 s5 R5 => ?_⟩
    have i5 := Imm.sameX s5 R4.at_
    have i45 := (Imm.same v4).trans i5
    have eS5 := s5 _ _ Sr (v4 _ _ eS)
    have sx5 := (sx.trans (SameX.of v4)).trans s5
    have ou : u = 0 ∨ u = 1 := by omega
    rcases ou with rfl | rfl
    · refine ⟨_, _, _, _, rfl, rfl, sql (s5 _ _ r4 e4), atI_nat (j := 0) rfl, ?_⟩
      exact ⟨.ref p1, .both dg (.leaf "next" [1]), _, rfl, q1.imm i5, ⟨od, wordO (by decide) (by show 1 ≤ 2; decide)⟩, gg.imm i45, ao.imm i45, eS5, sx5, R5⟩
    · refine ⟨_, _, _, _, rfl, rfl, sql (s5 _ _ r4 e4), atI_nat (j := 1) rfl, ?_⟩
      exact ⟨.ref p3, .both (.leaf "none" []) dg, _, rfl, q3.imm i5, ⟨wordO (by decide) (by show 0 ≤ 2; decide), od⟩, gg.imm i45, ao.imm i45, eS5, sx5, R5⟩
  · clear gg ao eS sx R2
    obtain ⟨dv, dg, y5, rfl, hd, od, gg, ao, eS, sx, R2⟩ := h
    have od4 : OddG 4 dg := oddG_le od (by omega)
    refine ⟨_, rfl, _, rfl, _, rfl, sz_2, fun l4 m4 => ?_⟩
    have w4 := same_upd (o := .lst [dv, .ref t0]) m4
    have e4 : (upd H3 l4 (.lst [dv, .ref t0])) l4 = some (.lst [dv, .ref t0]) := upd_same
    have R4 := R2.same w4
    generalize upd H3 l4 (.lst [dv, .ref t0]) = C4 at w4 e4 R4 ⊢
    refine ⟨S, l4, _, _, rfl, rfl, w4 _ _ eS, e4, sz (by rw [lv]; show 14 + 2 ≤ _; decide), fun l5 m5 => ?_⟩
    have w5 := same_upd (o := .lst (sv ++ [dv, .ref t0])) m5
    have e5 : (upd C4 l5 (.lst (sv ++ [dv, .ref t0]))) l5 = some (.lst (sv ++ [dv, .ref t0])) := upd_same
    have R5 := R4.same w5
    have r5 := R4.nr m5
    generalize upd C4 l5 (.lst (sv ++ [dv, .ref t0])) = C5 at w5 e5 R5 ⊢
    refine ⟨_, rfl, r, 16, rfl, R5, by decide, fun u C6 u0 u1 s6 R6 => ?_⟩
    obtain ⟨u, rfl⟩ : ∃ z : Nat, u = ((z : Nat) : Int) := ⟨u.toNat, by omega⟩
    have lu : u < (sv ++ [dv, V.ref t0]).length := by rw [List.length_append, lv]; show u < 16; omega
    refine ⟨_, _, _, _, rfl, rfl, sql (s6 _ _ r5 e5), atI_nat (List.getElem?_eq_getElem lu), ?_⟩
    have i6 := (Imm.same (w4.trans w5)).trans (Imm.sameX s6 R5.at_)
    have gg6 := gg.imm i6
    have sx6 := (sx.trans (SameX.of (w4.trans w5))).trans s6
    have picked : ∃ g, IsG K C6 g (sv ++ [dv, V.ref t0])[u] ∧ OddG 4 g := by
      rcases List.mem_append.mp (List.getElem_mem lu) with h | h
      · obtain ⟨g, a, b⟩ := ao _ h
        exact ⟨g, a.imm i6, b⟩
      · simp only [List.mem_cons, List.not_mem_nil, or_false] at h
        rcases h with h | h
        · rw [h]; exact ⟨dg, hd.imm i6, od4⟩
        · rw [h]; exact ⟨_, gg6, wordO (by decide) (by show 1 ≤ 2; decide)⟩
    obtain ⟨og, hog, oog⟩ := picked
    generalize (sv ++ [dv, V.ref t0])[u] = ov at hog ⊢
    clear gg ao eS sx R2 hd od od4 w4 w5 e4 e5 R4 R5 m4 m5 i6 s6 r5
    refine ⟨_, rfl, r, 3, rfl, R6, by decide, fun z C7 z0 z1 s7 R7 => ?_⟩
    have i7 := Imm.sameX s7 R6.at_
    refine ⟨_, rfl, by omega, by omega, ?_⟩
    refine for_range (lo := 0) (n := z.toNat) (fun i σ H' => ∃ (ov : V) (og : G) (y5 : Option V), σ = [some (.ref r), some (.ref t0), some (.int (3 + x)), some (.ref S), some dv, y5, some ov] ∧ IsG K H' og ov ∧ OddG (4 + i) og ∧ IsG K H' (.leaf "next" [1]) (.ref t0) ∧ SameX r H H' ∧ Row K H' r)
      ⟨ov, og, _, rfl, hog.imm i7, oog, gg6.imm i7, sx6.trans s7, R7⟩ (fun i σ H3 hi h => ?_) (fun σ H3 h => ?_)
    · clear hog oog gg6 sx6 s7 R7 R6 i7
      obtain ⟨ov, og, y5, rfl, hd, od, gg, sx, R2⟩ := h
      refine ⟨_, rfl, _, rfl, sz_3, fun p1 m1 => ?_⟩
      have w1 := same_upd (o := .tup [.str "both", ov, .ref t0]) m1
      have q1 : IsG K (upd H3 p1 (.tup [.str "both", ov, .ref t0])) (.both og (.leaf "next" [1])) (.ref p1) := ⟨_, _, _, rfl, sqt upd_same, hd.same w1, gg.same w1⟩
      generalize upd H3 p1 (.tup [.str "both", ov, .ref t0]) = C1 at w1 q1 ⊢
      refine ⟨_, rfl, _, rfl, sz_3, fun p3 m3 => ?_⟩
      have w3 := same_upd (o := .tup [.str "both", .ref t0, ov]) m3
      have q3 : IsG K (upd C1 p3 (.tup [.str "both", .ref t0, ov])) (.both (.leaf "next" [1]) og) (.ref p3) := ⟨_, _, _, rfl, sqt upd_same, gg.same (w1.trans w3), hd.same (w1.trans w3)⟩
      have q1 := q1.same w3
      generalize upd C1 p3 (.tup [.str "both", .ref t0, ov]) = C3 at w3 q1 q3 ⊢
      refine ⟨sz_2, fun l4 m4 => ?_⟩
      have w4 := same_upd (o := .lst [.ref p1, .ref p3]) m4
      have e4 : (upd C3 l4 (.lst [.ref p1, .ref p3])) l4 = some (.lst [.ref p1, .ref p3]) := upd_same
      have q1 := q1.same w4
      have q3 := q3.same w4
      have v4 := (w1.trans w3).trans w4
      have R4 := R2.same v4
      have r4 := (R2.same (w1.trans w3)).nr m4
      generalize upd C3 l4 (.lst [.ref p1, .ref p3]) = C4 at w4 q1 q3 e4 v4 R4 ⊢
      refine ⟨_, rfl, r, 2, rfl, R4, by decide, fun u C5 u0 u1 s5 R5 => ?_⟩
      have i5 := Imm.sameX s5 R4.at_
      have i45 := (Imm.same v4).trans i5
      have sx5 := (sx.trans (SameX.of v4)).trans s5
      have ou : u = 0 ∨ u = 1 := by omega
      rcases ou with rfl | rfl
      · refine ⟨_, _, _, _, rfl, rfl, sql (s5 _ _ r4 e4), atI_nat (j := 0) rfl, ?_⟩
        exact ⟨.ref p1, .both og (.leaf "next" [1]), _, rfl, q1.imm i5, ⟨od, wordO (by decide) (by show 1 ≤ 2; decide)⟩, gg.imm i45, sx5, R5⟩
      · refine ⟨_, _, _, _, rfl, rfl, sql (s5 _ _ r4 e4), atI_nat (j := 1) rfl, ?_⟩
        exact ⟨.ref p3, .both (.leaf "next" [1]) og, _, rfl, q3.imm i5, ⟨wordO (by decide) (by show 1 ≤ 2; decide), od⟩, gg.imm i45, sx5, R5⟩
    · obtain ⟨ov, og, y5, rfl, hd, od, gg, sx, R2⟩ := h
      exact ⟨_, rfl, q og ov H3 sx R2 hd (oddG_le od (by omega))⟩
end
end St

namespace St
open PySem PySem.Spec PyProof.Rows L2
abbrev s__law_spoilt : Stmt := topS 65
abbrev N__law_spoilt : List Str := ["_law_row", "_law_setting_here", "_law_memory", "_law_room", "_law_late", "_law_most", "_law_far", "_law_k", "_law_way", "_law_some"]
abbrev p__law_spoilt : List Str := ["_law_row", "_law_setting_here"]
theorem sc__law_spoilt : FnScope N__law_spoilt p__law_spoilt (defScope s__law_spoilt) := ⟨rfl, rfl, rfl, by decide +kernel, rfl, by decide +kernel, by decide +kernel⟩
theorem slA_ok {K : PySem.W.Frag} {H : Hp} {a : Addr} {xs : List V} {lo hi : Option Int} {Q : VK} (h : SqT K H a xs) (q : ∀ p H', Same H H' → SqT K H' p (cutV xs lo hi) → Q (.ref p) H') : rSlA K (.ref a) lo hi H Q :=
  ⟨a, xs, rfl, h, fun ⟨z1, z2⟩ => q a H (Same.refl _) (by
    unfold cutV
    rw [z1, z2, List.drop_zero, Nat.sub_zero, List.take_length]
    exact h), fun _ p np => q p _ (same_upd np) (sqt upd_same)⟩
theorem rep_one (n : Nat) (k : Int) (e : k.toNat = n) : (List.replicate k.toNat [V.int 1]).flatten = (List.replicate n (1 : Int)).map V.int := by
  rw [List.flatten_replicate_singleton, List.map_replicate, e]
theorem put_len {ms : List Int} {k : Nat} {x : Int} (hl : ms.length ≤ 40) (hk : k < 1 ∨ k < ms.length) : (ms.take k ++ [x] ++ ms.drop (k + 1)).length ≤ 40 := by
  rw [List.length_append, List.length_append, List.length_take, List.length_drop, List.length_singleton]
  omega
theorem map_put (ms : List Int) (k : Nat) (x : Int) : ((ms.map V.int).take k ++ [V.int x]) ++ (ms.map V.int).drop (k + 1) = (ms.take k ++ [x] ++ ms.drop (k + 1)).map V.int := by
  rw [List.map_append, List.map_append, List.map_take, List.map_drop]
  rfl
theorem pr_getS {K : PySem.W.Frag} {H : Hp} : ∀ {as : List Addr} {bs : List (List Int)} {i : Nat}, Paired (fun (p : Addr) (ws : List Int) => SqT K H p (ws.map V.int)) as bs → (h1 : i < as.length) → (h2 : i < bs.length) → SqT K H as[i] (bs[i].map V.int)
  | _, _, 0, .cons h _, _, _ => h
  | _, _, i + 1, .cons _ t, h1, h2 => pr_getS t (Nat.lt_of_succ_lt_succ h1) (Nat.lt_of_succ_lt_succ h2)
section
variable {P : Program} {w : World} {K : PySem.W.Frag} {mg : Str → Option Value} {base : Heap} {f fT : Addr} {fd fdT : FuncData}
def spSpoi (K : PySem.W.Frag) : Sp := fun vs H Q _ => ∃ (r a : Addr) (s : Stg), vs = [.ref r, .ref a] ∧ Row K H r ∧ IsSet K H a s ∧ s.mem.length ≤ 40 ∧ ∀ (a' : Addr) (s' : Stg) H', SameX r H H' → Row K H' r → IsSet K H' a' s' → s'.mem.length ≤ 40 → Q (.ref a') H'
theorem ok__law_spoi (T : Nms mg) (D__law_taken : Df K mg "_law_taken" s__law_taken p__law_taken fT fdT) (F : Fun K "_law_spoilt" "_law_spoilt" s__law_spoilt f fd) : FnOk P w K mg base CX0 2 f fd p__law_spoilt (spSpoi K) := by
  have G__law_taken : FnOk P w K mg base CX0 1 fT fdT p__law_taken (spTaken K) := ok__law_taken D__law_taken.F T
  refine F.ok sc__law_spoilt (fun vs H Q E h => ?_) (fun cdv A outer s H vs Q E hr h => ?_)
  · obtain ⟨r, a, s, rfl, _⟩ := h
    rfl
  obtain ⟨r, a, sg, rfl, hR, ⟨m, h1, h2⟩, hl, q⟩ := h
  refine ⟨_, (pss_cons (ps_asg (pv 1) (pg_tup rfl (pgs_cons (pg_name (i := 2) sc__law_spoilt.nd rfl (Or.inl rfl)) (pgs_cons (pg_name (i := 3) sc__law_spoilt.nd rfl (Or.inl rfl)) (pgs_cons (pg_name (i := 4) sc__law_spoilt.nd rfl (Or.inl rfl)) (pgs_cons (pg_name (i := 5) sc__law_spoilt.nd rfl (Or.inl rfl)) pgs_nil))))))
  (pss_cons (ps_set (i := 6) sc__law_spoilt.nd rfl (Or.inl rfl) (pe_call G__law_taken (hr.mono (by first | decide | omega)) (by rfl) D__law_taken.m D__law_taken.F.kp D__law_taken.b .nil pass0 (pa_cons (pv 0) (pa_cons pe_int pa_nil))))
  (pss_cons (ps_set (i := 7) sc__law_spoilt.nd rfl (Or.inl rfl) (pe_call G__law_taken (hr.mono (by first | decide | omega)) (by rfl) D__law_taken.m D__law_taken.F.kp D__law_taken.b .nil pass0 (pa_cons (pv 0) (pa_cons (pe_callB (call_max2 rfl) (by rfl) T.n_max (by decide +kernel) (pa_cons pe_int (pa_cons (pe_callB call_len_seq (by rfl) T.n_len (by decide +kernel) (pa_cons (pv 2) pa_nil)) pa_nil))) pa_nil))))
  (pss_cons (ps_set (i := 8) sc__law_spoilt.nd rfl (Or.inl rfl) (pe_call G__law_taken (hr.mono (by first | decide | omega)) (by rfl) D__law_taken.m D__law_taken.F.kp D__law_taken.b .nil pass0 (pa_cons (pv 0) (pa_cons pe_int pa_nil))))
  (Evl.pss_cut (ps_if (pt_cmpR op_eq (pv 8) pe_int (nomark _))
    (pss_cons (ps_set (i := 9) sc__law_spoilt.nd rfl (Or.inl rfl) (pe_lst (pa_cons (pe_tup pa_nil) (pa_cons (pe_op op_repT (pe_tup (pa_cons pe_int pa_nil)) pe_int) (pa_cons (pe_op op_catA (pe_op op_catA (pe_slice sl_tupA (pv 2) po_none (po_some (pv 7))) (pe_tup (pa_cons (pe_op op_add pe_int (pv 6)) pa_nil))) (pe_slice sl_tupA (pv 2) (po_some (pe_op op_add (pv 7) pe_int)) po_none)) (pa_cons (pe_op op_catA (pe_op op_catA (pe_slice sl_tupA (pv 2) po_none (po_some (pv 7))) (pe_tup (pa_cons (pe_op op_sub (pe_op op_sub pe_int pe_int) (pv 6)) pa_nil))) (pe_slice sl_tupA (pv 2) (po_some (pe_op op_add (pv 7) pe_int)) po_none)) pa_nil))))))
    (pss_one (ps_set (i := 2) sc__law_spoilt.nd rfl (Or.inl rfl) (pe_ix ix_list (pe_op op_cat (pv 9) (pe_lst (pa_cons (pe_op op_repT (pe_tup (pa_cons pe_int pa_nil)) pe_int) pa_nil))) (pe_call G__law_taken (hr.mono (by first | decide | omega)) (by rfl) D__law_taken.m D__law_taken.F.kp D__law_taken.b .nil pass0 (pa_cons (pv 0) (pa_cons pe_int pa_nil))) (fun _ _ => rfl)))))
    (pss_nil))
  (Evl.pss_cut (ps_if (pt_cmpR op_eq (pv 8) pe_int (nomark _))
    (pss_one (ps_set (i := 3) sc__law_spoilt.nd rfl (Or.inl rfl) (pe_ix ix_list (pe_lst (pa_cons pe_int (pa_cons pe_int (pa_cons (pe_op op_sub (pe_op op_sub pe_int pe_int) (pv 6)) (pa_cons (pe_op op_add pe_int (pv 6)) (pa_cons pe_int pa_nil)))))) (pe_call G__law_taken (hr.mono (by first | decide | omega)) (by rfl) D__law_taken.m D__law_taken.F.kp D__law_taken.b .nil pass0 (pa_cons (pv 0) (pa_cons pe_int pa_nil))) (fun _ _ => rfl))))
    (pss_nil))
  (Evl.pss_cut (ps_if (pt_cmpR op_eq (pv 8) pe_int (nomark _))
    (pss_one (ps_set (i := 4) sc__law_spoilt.nd rfl (Or.inl rfl) (pe_ix ix_list (pe_lst (pa_cons (pe_op op_sub pe_int pe_int) (pa_cons pe_int (pa_cons (pe_op op_add pe_int (pv 6)) (pa_cons (pe_op op_sub (pe_op op_sub pe_int pe_int) (pv 6)) (pa_cons pe_int pa_nil)))))) (pe_call G__law_taken (hr.mono (by first | decide | omega)) (by rfl) D__law_taken.m D__law_taken.F.kp D__law_taken.b .nil pass0 (pa_cons (pv 0) (pa_cons pe_int pa_nil))) (fun _ _ => rfl))))
    (pss_nil))
  (Evl.pss_cut (ps_if (pt_cmpR op_eq (pv 8) pe_int (nomark _))
    (pss_one (ps_set (i := 5) sc__law_spoilt.nd rfl (Or.inl rfl) (pe_ix ix_list (pe_lst (pa_cons pe_int (pa_cons pe_int (pa_cons (pe_op op_add pe_int (pv 6)) (pa_cons (pe_op op_sub (pe_op op_sub pe_int pe_int) (pv 6)) (pa_cons pe_int pa_nil)))))) (pe_call G__law_taken (hr.mono (by first | decide | omega)) (by rfl) D__law_taken.m D__law_taken.F.kp D__law_taken.b .nil pass0 (pa_cons (pv 0) (pa_cons pe_int pa_nil))) (fun _ _ => rfl))))
    (pss_nil))
  (pss_one (ps_ret (pe_tup (pa_cons (pv 2) (pa_cons (pv 3) (pa_cons (pv 4) (pa_cons (pv 5) pa_nil))))))))))))))), ?_⟩
  have lT := hR.at_
  refine ⟨_, rfl, a, _, rfl, h1, rfl, _, _, rfl, _, _, rfl, _, _, rfl, _, _, rfl, rfl, ?_⟩
  refine ⟨_, rfl, r, 1000, rfl, hR, by decide, fun x H1 x0 x1 s1 R1 => ?_⟩
  have hm1 := Imm.t (Imm.sameX s1 lT) h2
  refine ⟨_, rfl, _, rfl, _, _, rfl, .inr hm1, _, _, rfl, ?_⟩
  rw [List.length_map]
  refine ⟨r, _, rfl, R1, by split <;> omega, fun kz H2 k0 k1 s2 R2 => ?_⟩
  obtain ⟨k, rfl⟩ : ∃ z : Nat, kz = ((z : Nat) : Int) := ⟨kz.toNat, by omega⟩
  have hk : k < 1 ∨ k < sg.mem.length := by split at k1 <;> omega
  refine ⟨_, rfl, r, 4, rfl, R2, by decide, fun way H3 y0 y1 s3 R3 => ?_⟩
  have s13 := (s1.trans s2).trans s3
  have hm3 := Imm.t (Imm.sameX s13 lT) h2
  clear s1 s2 s3 R1 R2 hm1 k0 k1 hR h1 h2
  have g0 : ∃ (mm : Addr) (sn : Stg) (y9 : Option V), (((((((L2.start N__law_spoilt [V.ref r, V.ref a]).set 2 (some (V.ref m))).set 3 (some (V.int sg.rm))).set 4 (some (V.int sg.lt))).set 5 (some (V.int sg.ms))).set 6 (some (V.int x))).set 7 (some (V.int ((k : Nat) : Int)))).set 8 (some (V.int way)) = [some (.ref r), some (.ref a), some (.ref mm), some (.int sn.rm), some (.int sn.lt), some (.int sn.ms), some (.int x), some (.int ((k : Nat) : Int)), some (.int way), y9] ∧ SqT K H3 mm (sn.mem.map V.int) ∧ sn.mem.length ≤ 40 ∧ SameX r H H3 ∧ Row K H3 r := ⟨m, sg, none, rfl, hm3, hl, s13, R3⟩
  refine ⟨(fun σ' H' => ∃ (mm : Addr) (sn : Stg) (y9 : Option V), σ' = [some (.ref r), some (.ref a), some (.ref mm), some (.int sn.rm), some (.int sn.lt), some (.int sn.ms), some (.int x), some (.int ((k : Nat) : Int)), some (.int way), y9] ∧ SqT K H' mm (sn.mem.map V.int) ∧ sn.mem.length ≤ 40 ∧ SameX r H H' ∧ Row K H' r), ?_, fun σ4 H4 g4 => ?_⟩
  · refine ⟨_, rfl, rfl, _, rfl, ?_⟩
    by_cases c : way = 0
    · refine iteB (decide_eq_true (congrArg V.int c)) ?_
      have hm := hm3
      have v := Same.refl H3
      refine ⟨Nat.zero_le _, fun t1 n1 => ?_⟩
      have w1 := same_upd (o := .tup []) n1
      have e1 : SqT K (upd H3 t1 (.tup [])) t1 [] := sqt upd_same
      generalize upd H3 t1 (.tup []) = B1 at w1 e1 ⊢
      have hm := same_t w1 hm
      have v := v.trans w1
      refine ⟨sz_1, fun t2 n2 => ?_⟩
      have w2 := same_upd (o := .tup [.int 1]) n2
      have e2 : SqT K (upd B1 t2 (.tup [.int 1])) t2 [.int 1] := sqt upd_same
      generalize upd B1 t2 (.tup [.int 1]) = B2 at w2 e2 ⊢
      have hm := same_t w2 hm
      have v := v.trans w2
      have e1 := same_t w2 e1
      refine ⟨t2, 33, [.int 1], rfl, rfl, e2, (by intro z; cases z), by decide, by decide, by decide, fun t3 n3 => ?_⟩
      rw [rep_one 33 33 rfl]
      have w3 := same_upd (o := .tup ((List.replicate 33 (1 : Int)).map V.int)) n3
      have e3 : SqT K (upd B2 t3 (.tup ((List.replicate 33 (1 : Int)).map V.int))) t3 ((List.replicate 33 (1 : Int)).map V.int) := sqt upd_same
      generalize upd B2 t3 (.tup ((List.replicate 33 (1 : Int)).map V.int)) = B3 at w3 e3 ⊢
      have hm := same_t w3 hm
      have v := v.trans w3
      have e1 := same_t w3 e1
      have e2 := same_t w3 e2
      refine ⟨_, rfl, _, rfl, _, rfl, slA_ok hm fun t4 B4 w4 e4 => ?_⟩
      have hm := same_t w4 hm
      have v := v.trans w4
      have e1 := same_t w4 e1
      have e3 := same_t w4 e3
      rw [cut_to (by omega), Int.toNat_natCast] at e4
      refine ⟨_, rfl, _, _, rfl, rfl, sz_1, fun t5 n5 => ?_⟩
      have w5 := same_upd (o := .tup [.int (100 + x)]) n5
      have e5 : SqT K (upd B4 t5 (.tup [.int (100 + x)])) t5 [.int (100 + x)] := sqt upd_same
      generalize upd B4 t5 (.tup [.int (100 + x)]) = B5 at w5 e5 ⊢
      have hm := same_t w5 hm
      have v := v.trans w5
      have e1 := same_t w5 e1
      have e3 := same_t w5 e3
      have e4 := same_t w5 e4
      refine catA_ok e4 e5 (sz (by rw [List.length_take, List.length_map]; show _ + 1 ≤ _; omega)) fun t6 B6 w6 e6 => ?_
      have hm := same_t w6 hm
      have v := v.trans w6
      have e1 := same_t w6 e1
      have e3 := same_t w6 e3
      have e4 := same_t w6 e4
      have e5 := same_t w6 e5
      refine ⟨_, rfl, _, rfl, _, _, rfl, rfl, _, rfl, ?_⟩
      try unfold tNoPart
      refine slA_ok hm fun t7 B7 w7 e7 => ?_
      have hm := same_t w7 hm
      have v := v.trans w7
      have e1 := same_t w7 e1
      have e3 := same_t w7 e3
      have e4 := same_t w7 e4
      have e5 := same_t w7 e5
      have e6 := same_t w7 e6
      rw [cut_from (by omega), show (((k : Nat) : Int) + 1).toNat = k + 1 by omega] at e7
      refine catA_ok e6 e7 (sz (by rw [List.length_append, List.length_take, List.length_drop, List.length_map]; show _ + 1 + _ ≤ _; omega)) fun t8 B8 w8 e8 => ?_
      have hm := same_t w8 hm
      have v := v.trans w8
      have e1 := same_t w8 e1
      have e3 := same_t w8 e3
      have e4 := same_t w8 e4
      have e5 := same_t w8 e5
      have e6 := same_t w8 e6
      have e7 := same_t w8 e7
      rw [map_put] at e8
      refine ⟨_, rfl, _, rfl, _, rfl, slA_ok hm fun t9 B9 w9 e9 => ?_⟩
      have hm := same_t w9 hm
      have v := v.trans w9
      have e1 := same_t w9 e1
      have e3 := same_t w9 e3
      have e8 := same_t w9 e8
      rw [cut_to (by omega), Int.toNat_natCast] at e9
      refine ⟨_, _, rfl, rfl, _, rfl, _, _, rfl, rfl, sz_1, fun t10 n10 => ?_⟩
      have w10 := same_upd (o := .tup [.int (0 - 1 - x)]) n10
      have e10 : SqT K (upd B9 t10 (.tup [.int (0 - 1 - x)])) t10 [.int (0 - 1 - x)] := sqt upd_same
      generalize upd B9 t10 (.tup [.int (0 - 1 - x)]) = B10 at w10 e10 ⊢
      have hm := same_t w10 hm
      have v := v.trans w10
      have e1 := same_t w10 e1
      have e3 := same_t w10 e3
      have e8 := same_t w10 e8
      have e9 := same_t w10 e9
      refine catA_ok e9 e10 (sz (by rw [List.length_take, List.length_map]; show _ + 1 ≤ _; omega)) fun t11 B11 w11 e11 => ?_
      have hm := same_t w11 hm
      have v := v.trans w11
      have e1 := same_t w11 e1
      have e3 := same_t w11 e3
      have e8 := same_t w11 e8
      have e9 := same_t w11 e9
      have e10 := same_t w11 e10
      refine ⟨_, rfl, _, rfl, _, _, rfl, rfl, _, rfl, ?_⟩
      try unfold tNoPart
      refine slA_ok hm fun t12 B12 w12 e12 => ?_
      have hm := same_t w12 hm
      have v := v.trans w12
      have e1 := same_t w12 e1
      have e3 := same_t w12 e3
      have e8 := same_t w12 e8
      have e9 := same_t w12 e9
      have e10 := same_t w12 e10
      have e11 := same_t w12 e11
      rw [cut_from (by omega), show (((k : Nat) : Int) + 1).toNat = k + 1 by omega] at e12
      refine catA_ok e11 e12 (sz (by rw [List.length_append, List.length_take, List.length_drop, List.length_map]; show _ + 1 + _ ≤ _; omega)) fun t13 B13 w13 e13 => ?_
      have hm := same_t w13 hm
      have v := v.trans w13
      have e1 := same_t w13 e1
      have e3 := same_t w13 e3
      have e8 := same_t w13 e8
      have e9 := same_t w13 e9
      have e10 := same_t w13 e10
      have e11 := same_t w13 e11
      have e12 := same_t w13 e12
      rw [map_put] at e13
      refine ⟨sz_4, fun t14 n14 => ?_⟩
      have w14 := same_upd (o := .lst [.ref t1, .ref t3, .ref t8, .ref t13]) n14
      have e14 : (upd B13 t14 (.lst [.ref t1, .ref t3, .ref t8, .ref t13])) t14 = some (.lst [.ref t1, .ref t3, .ref t8, .ref t13]) := upd_same
      generalize upd B13 t14 (.lst [.ref t1, .ref t3, .ref t8, .ref t13]) = B14 at w14 e14 ⊢
      have hm := same_t w14 hm
      have v := v.trans w14
      have e1 := same_t w14 e1
      have e3 := same_t w14 e3
      have e8 := same_t w14 e8
      have e13 := same_t w14 e13
      refine ⟨_, rfl, sz_1, fun t15 n15 => ?_⟩
      have w15 := same_upd (o := .tup [.int 1]) n15
      have e15 : SqT K (upd B14 t15 (.tup [.int 1])) t15 [.int 1] := sqt upd_same
      generalize upd B14 t15 (.tup [.int 1]) = B15 at w15 e15 ⊢
      have hm := same_t w15 hm
      have v := v.trans w15
      have e1 := same_t w15 e1
      have e3 := same_t w15 e3
      have e8 := same_t w15 e8
      have e13 := same_t w15 e13
      have e14 := w15 _ _ e14
      refine ⟨t15, 32, [.int 1], rfl, rfl, e15, (by intro z; cases z), by decide, by decide, by decide, fun t16 n16 => ?_⟩
      rw [rep_one 32 32 rfl]
      have w16 := same_upd (o := .tup ((List.replicate 32 (1 : Int)).map V.int)) n16
      have e16 : SqT K (upd B15 t16 (.tup ((List.replicate 32 (1 : Int)).map V.int))) t16 ((List.replicate 32 (1 : Int)).map V.int) := sqt upd_same
      generalize upd B15 t16 (.tup ((List.replicate 32 (1 : Int)).map V.int)) = B16 at w16 e16 ⊢
      have hm := same_t w16 hm
      have v := v.trans w16
      have e1 := same_t w16 e1
      have e3 := same_t w16 e3
      have e8 := same_t w16 e8
      have e13 := same_t w16 e13
      have e14 := w16 _ _ e14
      have e15 := same_t w16 e15
      refine ⟨sz_1, fun t17 n17 => ?_⟩
      have w17 := same_upd (o := .lst [.ref t16]) n17
      have e17 : (upd B16 t17 (.lst [.ref t16])) t17 = some (.lst [.ref t16]) := upd_same
      generalize upd B16 t17 (.lst [.ref t16]) = B17 at w17 e17 ⊢
      have hm := same_t w17 hm
      have v := v.trans w17
      have e1 := same_t w17 e1
      have e3 := same_t w17 e3
      have e8 := same_t w17 e8
      have e13 := same_t w17 e13
      have e14 := w17 _ _ e14
      have e16 := same_t w17 e16
      refine ⟨t14, t17, _, _, rfl, rfl, e14, e17, sz (by show 4 + 1 ≤ _; decide), fun t18 n18 => ?_⟩
      have w18 := same_upd (o := .lst ([.ref t1, .ref t3, .ref t8, .ref t13] ++ [.ref t16])) n18
      have e18 : (upd B17 t18 (.lst ([.ref t1, .ref t3, .ref t8, .ref t13] ++ [.ref t16]))) t18 = some (.lst ([.ref t1, .ref t3, .ref t8, .ref t13] ++ [.ref t16])) := upd_same
      generalize upd B17 t18 (.lst ([.ref t1, .ref t3, .ref t8, .ref t13] ++ [.ref t16])) = B18 at w18 e18 ⊢
      have hm := same_t w18 hm
      have v := v.trans w18
      have e1 := same_t w18 e1
      have e3 := same_t w18 e3
      have e8 := same_t w18 e8
      have e13 := same_t w18 e13
      have e14 := w18 _ _ e14
      have e16 := same_t w18 e16
      have e17 := w18 _ _ e17
      have RB := R3.same v
      have ltr : t18 ≠ r := fun z => by
        obtain ⟨ys, hy⟩ := R3.at_
        have z2 := v _ _ hy
        obtain ⟨sc, nsc, i0, si, hrow, _⟩ := RB
        rw [← z] at hrow
        rw [e18] at hrow
        cases hrow
      have pw : Paired (fun (p : Addr) (ws : List Int) => SqT K B18 p (ws.map V.int)) ([t1, t3, t8, t13, t16] : List Addr) ([[], List.replicate 33 1, sg.mem.take k ++ [100 + x] ++ sg.mem.drop (k + 1), sg.mem.take k ++ [0 - 1 - x] ++ sg.mem.drop (k + 1), List.replicate 32 1] : List (List Int)) := .cons e1 (.cons e3 (.cons e8 (.cons e13 (.cons e16 .nil))))
      refine ⟨_, rfl, r, 5, rfl, RB, by decide, fun u H9 u0 u1 s9 R9 => ?_⟩
      obtain ⟨u, rfl⟩ : ∃ z : Nat, u = ((z : Nat) : Int) := ⟨u.toNat, by omega⟩
      have hu : u < ([t1, t3, t8, t13, t16] : List Addr).length := by show u < 5; omega
      have hu2 : u < ([[], List.replicate 33 1, sg.mem.take k ++ [100 + x] ++ sg.mem.drop (k + 1), sg.mem.take k ++ [0 - 1 - x] ++ sg.mem.drop (k + 1), List.replicate 32 1] : List (List Int)).length := by show u < 5; omega
      have eu : (([t1, t3, t8, t13, t16] : List Addr).map V.ref)[u]? = some (.ref ([t1, t3, t8, t13, t16] : List Addr)[u]) := by rw [List.getElem?_map, List.getElem?_eq_getElem hu]; rfl
      have hq := pr_getS pw hu hu2
      have len40 : ∀ l ∈ ([[], List.replicate 33 1, sg.mem.take k ++ [100 + x] ++ sg.mem.drop (k + 1), sg.mem.take k ++ [0 - 1 - x] ++ sg.mem.drop (k + 1), List.replicate 32 1] : List (List Int)), l.length ≤ 40 := fun l hm => by
        simp only [List.mem_cons, List.not_mem_nil, or_false] at hm
        rcases hm with rfl | rfl | rfl | rfl | rfl
        · exact Nat.zero_le _
        · rw [List.length_replicate]; decide
        · exact put_len hl hk
        · exact put_len hl hk
        · rw [List.length_replicate]; decide
      have lq := len40 _ (List.getElem_mem hu2)
      refine ⟨_, _, _, _, rfl, rfl, sql (s9 _ _ ltr e18), atI_nat eu, ?_⟩
      generalize ([t1, t3, t8, t13, t16] : List Addr)[u] = mq at hq ⊢
      generalize ([[], List.replicate 33 1, sg.mem.take k ++ [100 + x] ++ sg.mem.drop (k + 1), sg.mem.take k ++ [0 - 1 - x] ++ sg.mem.drop (k + 1), List.replicate 32 1] : List (List Int))[u] = lm at hq lq
      exact ⟨mq, ⟨lm, sg.rm, sg.lt, sg.ms⟩, _, rfl, Imm.t (Imm.sameX s9 RB.at_) hq, lq, (s13.trans (SameX.of v)).trans s9, R9⟩
    · refine iteB0 (decide_eq_false fun z => c (V.int.inj z)) ?_
      exact g0
  clear g0 R3 s13 hm3 hk
  obtain ⟨mm, sn, y9, rfl, hm, hl4, sx, RX⟩ := g4
  refine ⟨(fun σ' H' => ∃ (mm : Addr) (sn : Stg) (y9 : Option V), σ' = [some (.ref r), some (.ref a), some (.ref mm), some (.int sn.rm), some (.int sn.lt), some (.int sn.ms), some (.int x), some (.int ((k : Nat) : Int)), some (.int way), y9] ∧ SqT K H' mm (sn.mem.map V.int) ∧ sn.mem.length ≤ 40 ∧ SameX r H H' ∧ Row K H' r), ?_, fun σ5 H5 g5 => ?_⟩
  · refine ⟨_, rfl, rfl, _, rfl, ?_⟩
    by_cases c : way = 1
    · refine iteB (decide_eq_true (congrArg V.int c)) ?_
      refine ⟨_, _, rfl, rfl, _, rfl, _, _, rfl, rfl, _, rfl, _, _, rfl, rfl, sz_5, fun l nl => ?_⟩
      have w1 := same_upd (o := .lst (([0, 9, 0 - 1 - x, 9 + x, 8] : List Int).map V.int)) nl
      have e1 : (upd H4 l (.lst (([0, 9, 0 - 1 - x, 9 + x, 8] : List Int).map V.int))) l = some (.lst (([0, 9, 0 - 1 - x, 9 + x, 8] : List Int).map V.int)) := upd_same
      have R1 := RX.same w1
      have lr := RX.nr nl
      refine ⟨_, rfl, r, 5, rfl, R1, by decide, fun u H9 u0 u1 s9 R9 => ?_⟩
      obtain ⟨u, rfl⟩ : ∃ z : Nat, u = ((z : Nat) : Int) := ⟨u.toNat, by omega⟩
      have hu : u < (([0, 9, 0 - 1 - x, 9 + x, 8] : List Int)).length := by show u < 5; omega
      have eu : ((([0, 9, 0 - 1 - x, 9 + x, 8] : List Int)).map V.int)[u]? = some (.int (([0, 9, 0 - 1 - x, 9 + x, 8] : List Int))[u]) := by rw [List.getElem?_map, List.getElem?_eq_getElem hu]; rfl
      refine ⟨_, _, _, _, rfl, rfl, sql (s9 _ _ lr e1), atI_nat eu, ?_⟩
      generalize (([0, 9, 0 - 1 - x, 9 + x, 8] : List Int))[u] = z
      exact ⟨mm, ⟨sn.mem, z, sn.lt, sn.ms⟩, y9, rfl, Imm.t ((Imm.same w1).trans (Imm.sameX s9 R1.at_)) hm, hl4, (sx.trans (SameX.of w1)).trans s9, R9⟩
    · refine iteB0 (decide_eq_false fun z => c (V.int.inj z)) ?_
      exact ⟨mm, sn, y9, rfl, hm, hl4, sx, RX⟩
  clear hm hl4 sx RX
  obtain ⟨mm, sn, y9, rfl, hm, hl4, sx, RX⟩ := g5
  refine ⟨(fun σ' H' => ∃ (mm : Addr) (sn : Stg) (y9 : Option V), σ' = [some (.ref r), some (.ref a), some (.ref mm), some (.int sn.rm), some (.int sn.lt), some (.int sn.ms), some (.int x), some (.int ((k : Nat) : Int)), some (.int way), y9] ∧ SqT K H' mm (sn.mem.map V.int) ∧ sn.mem.length ≤ 40 ∧ SameX r H H' ∧ Row K H' r), ?_, fun σ6 H6 g6 => ?_⟩
  · refine ⟨_, rfl, rfl, _, rfl, ?_⟩
    by_cases c : way = 2
    · refine iteB (decide_eq_true (congrArg V.int c)) ?_
      refine ⟨_, _, rfl, rfl, _, rfl, _, _, rfl, rfl, _, _, rfl, rfl, _, rfl, _, _, rfl, rfl, sz_5, fun l nl => ?_⟩
      have w1 := same_upd (o := .lst (([0 - 1, 5, 5 + x, 0 - 1 - x, 4] : List Int).map V.int)) nl
      have e1 : (upd H5 l (.lst (([0 - 1, 5, 5 + x, 0 - 1 - x, 4] : List Int).map V.int))) l = some (.lst (([0 - 1, 5, 5 + x, 0 - 1 - x, 4] : List Int).map V.int)) := upd_same
      have R1 := RX.same w1
      have lr := RX.nr nl
      refine ⟨_, rfl, r, 5, rfl, R1, by decide, fun u H9 u0 u1 s9 R9 => ?_⟩
      obtain ⟨u, rfl⟩ : ∃ z : Nat, u = ((z : Nat) : Int) := ⟨u.toNat, by omega⟩
      have hu : u < (([0 - 1, 5, 5 + x, 0 - 1 - x, 4] : List Int)).length := by show u < 5; omega
      have eu : ((([0 - 1, 5, 5 + x, 0 - 1 - x, 4] : List Int)).map V.int)[u]? = some (.int (([0 - 1, 5, 5 + x, 0 - 1 - x, 4] : List Int))[u]) := by rw [List.getElem?_map, List.getElem?_eq_getElem hu]; rfl
      refine ⟨_, _, _, _, rfl, rfl, sql (s9 _ _ lr e1), atI_nat eu, ?_⟩
      generalize (([0 - 1, 5, 5 + x, 0 - 1 - x, 4] : List Int))[u] = z
      exact ⟨mm, ⟨sn.mem, sn.rm, z, sn.ms⟩, y9, rfl, Imm.t ((Imm.same w1).trans (Imm.sameX s9 R1.at_)) hm, hl4, (sx.trans (SameX.of w1)).trans s9, R9⟩
    · refine iteB0 (decide_eq_false fun z => c (V.int.inj z)) ?_
      exact ⟨mm, sn, y9, rfl, hm, hl4, sx, RX⟩
  clear hm hl4 sx RX
  obtain ⟨mm, sn, y9, rfl, hm, hl4, sx, RX⟩ := g6
  refine ⟨(fun σ' H' => ∃ (mm : Addr) (sn : Stg) (y9 : Option V), σ' = [some (.ref r), some (.ref a), some (.ref mm), some (.int sn.rm), some (.int sn.lt), some (.int sn.ms), some (.int x), some (.int ((k : Nat) : Int)), some (.int way), y9] ∧ SqT K H' mm (sn.mem.map V.int) ∧ sn.mem.length ≤ 40 ∧ SameX r H H' ∧ Row K H' r), ?_, fun σ7 H7 g7 => ?_⟩
  · refine ⟨_, rfl, rfl, _, rfl, ?_⟩
    by_cases c : way = 3
    · refine iteB (decide_eq_true (congrArg V.int c)) ?_
      refine ⟨_, rfl, _, _, rfl, rfl, _, _, rfl, rfl, _, rfl, _, _, rfl, rfl, sz_5, fun l nl => ?_⟩
      have w1 := same_upd (o := .lst (([0, 5, 5 + x, 0 - 1 - x, 4] : List Int).map V.int)) nl
      have e1 : (upd H6 l (.lst (([0, 5, 5 + x, 0 - 1 - x, 4] : List Int).map V.int))) l = some (.lst (([0, 5, 5 + x, 0 - 1 - x, 4] : List Int).map V.int)) := upd_same
      have R1 := RX.same w1
      have lr := RX.nr nl
      refine ⟨_, rfl, r, 5, rfl, R1, by decide, fun u H9 u0 u1 s9 R9 => ?_⟩
      obtain ⟨u, rfl⟩ : ∃ z : Nat, u = ((z : Nat) : Int) := ⟨u.toNat, by omega⟩
      have hu : u < (([0, 5, 5 + x, 0 - 1 - x, 4] : List Int)).length := by show u < 5; omega
      have eu : ((([0, 5, 5 + x, 0 - 1 - x, 4] : List Int)).map V.int)[u]? = some (.int (([0, 5, 5 + x, 0 - 1 - x, 4] : List Int))[u]) := by rw [List.getElem?_map, List.getElem?_eq_getElem hu]; rfl
      refine ⟨_, _, _, _, rfl, rfl, sql (s9 _ _ lr e1), atI_nat eu, ?_⟩
      generalize (([0, 5, 5 + x, 0 - 1 - x, 4] : List Int))[u] = z
      exact ⟨mm, ⟨sn.mem, sn.rm, sn.lt, z⟩, y9, rfl, Imm.t ((Imm.same w1).trans (Imm.sameX s9 R1.at_)) hm, hl4, (sx.trans (SameX.of w1)).trans s9, R9⟩
    · refine iteB0 (decide_eq_false fun z => c (V.int.inj z)) ?_
      exact ⟨mm, sn, y9, rfl, hm, hl4, sx, RX⟩
  clear hm hl4 sx RX
  obtain ⟨mm, sn, y9, rfl, hm, hl4, sx, RX⟩ := g7
  refine ⟨_, rfl, _, rfl, _, rfl, _, rfl, sz_4, fun p np => ?_⟩
  have w1 := same_upd (o := .tup [.ref mm, .int sn.rm, .int sn.lt, .int sn.ms]) np
  exact q p sn _ (sx.trans (SameX.of w1)) (RX.same w1) ⟨mm, sqt upd_same, same_t w1 hm⟩ hl4
end
end St

namespace St
open PySem PySem.Spec PyProof.Rows L2
abbrev s__law_why : Stmt := topS 66
abbrev N__law_why : List Str := ["_law_setting_here", "_law_memory", "_law_room", "_law_late", "_law_most", "_law_one"]
abbrev p__law_why : List Str := ["_law_setting_here"]
theorem sc__law_why : FnScope N__law_why p__law_why (defScope s__law_why) := ⟨rfl, rfl, rfl, by decide +kernel, rfl, by decide +kernel, by decide +kernel⟩
theorem in_ints (r : Int) : ∀ (xs : List Int), inV (.int r) (xs.map V.int) = decide (r ∈ xs)
  | [] => rfl
  | x :: xs => by
    have ih := in_ints r xs
    unfold inV at ih ⊢
    rw [List.map_cons, List.any_cons, ih]
    by_cases e : x = r
    · subst e
      have : eqV (.int x) (.int x) = true := by simp [eqV]
      rw [this, Bool.true_or, decide_eq_true (List.mem_cons_self ..)]
    · have : eqV (.int x) (.int r) = false := by simp [eqV, e]
      rw [this, Bool.false_or]
      exact decide_eq_decide.mpr ⟨fun h => List.mem_cons_of_mem _ h, fun h => (List.mem_cons.mp h).resolve_left fun z => e z.symm⟩
section
variable {P : Program} {w : World} {K : PySem.W.Frag} {mg : Str → Option Value} {base : Heap} {f : Addr} {fd : FuncData}
def spWhy (K : PySem.W.Frag) : Sp := fun vs H Q _ => ∃ (a : Addr) (s : Stg), vs = [.ref a] ∧ IsSet K H a s ∧ s.mem.length ≤ 1000 ∧ (s.Good → ∀ H', Same H H' → Q (.str "") H') ∧ ∀ w, WhyS s w → ∀ H', Same H H' → Q (.str w) H'
theorem ok__law_why (T : Nms mg) (F : Fun K "_law_why" "_law_why" s__law_why f fd) : FnOk P w K mg base CX0 1 f fd p__law_why (spWhy K) := by
  refine F.ok sc__law_why (fun vs H Q E h => ?_) (fun cdv A outer s H vs Q E hr h => ?_)
  · obtain ⟨a, s, rfl, _⟩ := h
    rfl
  obtain ⟨a, s, rfl, ⟨m, h1, h2⟩, lm0, q, qe⟩ := h
  refine ⟨_, (pss_cons (ps_asg (pv 0) (pg_tup rfl (pgs_cons (pg_name (i := 1) sc__law_why.nd rfl (Or.inl rfl)) (pgs_cons (pg_name (i := 2) sc__law_why.nd rfl (Or.inl rfl)) (pgs_cons (pg_name (i := 3) sc__law_why.nd rfl (Or.inl rfl)) (pgs_cons (pg_name (i := 4) sc__law_why.nd rfl (Or.inl rfl)) pgs_nil))))))
  (pss_cons (ps_if (PW.pt (pw_or (pt_not (pt_chain op_le op_le pe_int (pe_callB call_len_seq (by rfl) T.n_len (by decide +kernel) (pa_cons (pv 1) pa_nil)) pe_int)) (pw_or1 (pt_cmpR (op_neD hr.units) (pe_lc (own := [("_law_one", 5)]) (g := gName 5) rfl sc__law_why.nd (pi_tup (pv 1)) (blkOk_by (own := [("_law_one", 5)]) (N := N__law_why) (sc := defScope s__law_why) (by decide +kernel)) (fun _ _ _ _ _ => pg_name (i := 5) sc__law_why.nd rfl (Or.inl rfl)) (fun _ _ _ _ _ => pts_one (PW.pt (pw_or (pt_cmpR op_lt (pv 5) pe_int (nomark _)) (pw_or1 (pt_cmpR op_gt (pv 5) pe_int (nomark _)))))) (fun _ _ _ _ _ => (pv 5))) (pe_lst pa_nil) (nomark _)))))
    (pss_one (ps_ret pe_str))
    (pss_nil))
  (pss_cons (ps_if (pt_cmpR op_notIn_seq (pv 2) (pe_listRg rfl (by rfl) T.n_list (prg_2 (by rfl) T.n_range pe_int pe_int)) (by with_unfolding_all rfl))
    (pss_one (ps_ret pe_str))
    (pss_nil))
  (pss_cons (ps_if (pt_cmpR op_notIn_seq (pv 3) (pe_tup (pa_cons pe_int (pa_cons pe_int (pa_cons pe_int (pa_cons pe_int (pa_cons pe_int pa_nil)))))) (by with_unfolding_all rfl))
    (pss_one (ps_ret pe_str))
    (pss_nil))
  (pss_one (ps_ret (pe_ifExp (pt_cmpR op_in_seq (pv 4) (pe_tup (pa_cons pe_int (pa_cons pe_int (pa_cons pe_int (pa_cons pe_int pa_nil))))) (by with_unfolding_all rfl)) pe_str pe_str))))))), ?_⟩
  have lm : (s.mem.map V.int).length = s.mem.length := List.length_map _
  refine ⟨_, rfl, a, _, rfl, h1, rfl, _, _, rfl, _, _, rfl, _, _, rfl, _, _, rfl, rfl, ?_⟩
  and_intros
  have memBad : ¬ MemOk s.mem → ∀ H', Same H H' → Q (.str "memory") H' := fun n => qe _ (.inl ⟨n, rfl⟩)
  by_cases c1 : 1 ≤ s.mem.length
  all_goals first
    | (refine iteB0 (decide_eq_false (by rw [lm]; omega)) ?_
       refine ⟨_, rfl, iteB (b := !false) rfl ?_⟩
       first | exact iteB rfl (memBad (fun z => c1 z.1.1) _ (Same.refl _)) | exact memBad (fun z => c1 z.1.1) _ (Same.refl _))
    | skip
  refine iteB (decide_eq_true (by rw [lm]; omega)) ?_
  refine ⟨_, _, rfl, rfl, _, rfl, ?_⟩
  by_cases c2 : s.mem.length ≤ 32
  all_goals first
    | (rw [decide_eq_false (show ¬ (((s.mem.map V.int).length : Nat) : Int) ≤ 32 by rw [lm]; omega)]
       refine iteB (b := !false) rfl ?_
       first | exact iteB rfl (memBad (fun z => c2 z.1.2) _ (Same.refl _)) | exact memBad (fun z => c2 z.1.2) _ (Same.refl _))
    | skip
  rw [decide_eq_true (show (((s.mem.map V.int).length : Nat) : Int) ≤ 32 by rw [lm]; omega)]
  refine iteB0 (b := !true) rfl ?_
  and_intros
  refine ⟨⟨_, h2⟩, fun D nD => ?_⟩
  refine lc_tup (xs := s.mem.map V.int) (fun i H' => Same H H' ∧ H' D = some (.lst (((s.mem.take i).filter badM).map V.int))) ⟨same_upd nD, upd_same⟩ (fun i H' _ h => same_t h.1 h2) (fun i y H' hi h => ?_) (fun H' h => ?_)
  · obtain ⟨x, rfl, ex, et⟩ := at_ints hi
    have li := (List.getElem?_eq_some_iff.mp ex).1
    have e2 : (s.mem.take (i + 1)).filter badM = (s.mem.take i).filter badM ++ (if badM x = true then [x] else []) := by
      rw [et, List.filter_append]
      congr 1
      cases b : badM x
      · rw [List.filter_cons_of_neg (by rw [b]; exact fun z => nomatch z)]; rfl
      · rw [List.filter_cons_of_pos b]; rfl
    have fin : badM x = true → ∃ acc, H' D = some (.lst acc) ∧ acc.length < sizeLine ∧ (Same H (upd H' D (.lst (acc ++ [.int x]))) ∧ (upd H' D (.lst (acc ++ [.int x]))) D = some (.lst (((s.mem.take (i + 1)).filter badM).map V.int))) := fun b => by
      refine ⟨_, h.2, ?_, same_mut h.1 nD, ?_⟩
      · rw [List.length_map]
        have := List.length_filter_le badM (s.mem.take i)
        rw [List.length_take] at this
        exact szl (by omega)
      · rw [upd_same, e2, if_pos b, List.map_append]
        rfl
    have nof : badM x = false → Same H H' ∧ H' D = some (.lst (((s.mem.take (i + 1)).filter badM).map V.int)) := fun b => by
      refine ⟨h.1, ?_⟩
      rw [e2, if_neg (by rw [b]; exact fun z => nomatch z), List.append_nil]
      exact h.2
    and_intros
    by_cases d1 : x < 0
    · refine iteB (decide_eq_true d1) ?_
      exact ⟨_, rfl, fin (by unfold badM; rw [decide_eq_false (show ¬ 0 ≤ x by omega)]; rfl)⟩
    · refine iteB0 (decide_eq_false d1) ?_
      and_intros
      by_cases d2 : x > 99
      · refine iteB (decide_eq_true d2) ?_
        exact ⟨_, rfl, fin (by unfold badM; rw [decide_eq_false (show ¬ x ≤ 99 by omega), Bool.and_false]; rfl)⟩
      · refine iteB0 (decide_eq_false d2) ?_
        exact nof (by unfold badM; rw [decide_eq_true (show 0 ≤ x by omega), decide_eq_true (show x ≤ 99 by omega)]; rfl)
  · rw [show (s.mem.map V.int).length = s.mem.length from lm, List.take_length] at h
    and_intros
    intro L nL
    refine ⟨.list ((s.mem.filter badM).map .int), .list (([] : List Int).map .int), dp_ints (sql (same_upd nL _ _ h.2)), dp_ints (sql upd_same), lay_ints _, lay_ints [], ?_⟩
    rw [eqv_ints]
    have s2 := h.1.trans (same_upd (o := .lst []) nL)
    generalize upd H' L (.lst []) = H2 at s2 ⊢
    refine ⟨_, rfl, ?_⟩
    by_cases c3 : MemOk s.mem
    all_goals first
      | (refine iteB (by rw [decide_eq_false (fun e => c3 (memOk_of ⟨c1, c2⟩ e))]; rfl) ?_
         exact memBad c3 _ s2)
      | skip
    refine iteB0 (by rw [decide_eq_true (memOk_to c3)]; rfl) ?_
    have mem8 : ∀ r : Int, decide (r ∈ ([1, 2, 3, 4, 5, 6, 7, 8] : List Int)) = decide (1 ≤ r ∧ r ≤ 8) := fun r => decide_eq_decide.mpr (by simp only [List.mem_cons, List.not_mem_nil, or_false]; omega)
    have mem5 : ∀ r : Int, decide (r ∈ ([0, 1, 2, 3, 4] : List Int)) = decide (0 ≤ r ∧ r ≤ 4) := fun r => decide_eq_decide.mpr (by simp only [List.mem_cons, List.not_mem_nil, or_false]; omega)
    have mem4 : ∀ r : Int, decide (r ∈ ([1, 2, 3, 4] : List Int)) = decide (1 ≤ r ∧ r ≤ 4) := fun r => decide_eq_decide.mpr (by simp only [List.mem_cons, List.not_mem_nil, or_false]; omega)
    refine ⟨_, rfl, 1, 9, rfl, rfl, RgOk.of_le (by decide) (by decide) (by decide) (by decide), fun l nl => ?_⟩
    have w3 := same_upd (o := .lst (rgV 1 9)) nl
    have e3 : (upd H2 l (.lst (rgV 1 9))) l = some (.lst (rgV 1 9)) := upd_same
    have s3 := s2.trans w3
    generalize upd H2 l (.lst (rgV 1 9)) = H3 at e3 s3 ⊢
    refine ⟨l, rgV 1 9, rfl, .inl (sql e3), rfl, by decide +kernel, ?_⟩
    by_cases r1 : 1 ≤ s.rm ∧ s.rm ≤ 8
    all_goals first
      | (refine ⟨_, rfl, iteB (show (!inV (V.int s.rm) (([1, 2, 3, 4, 5, 6, 7, 8] : List Int).map V.int)) = true by rw [in_ints, mem8, decide_eq_false r1]; rfl) ?_⟩
         exact qe _ (.inr (.inl ⟨c3, r1, rfl⟩)) _ s3)
      | skip
    refine ⟨_, rfl, iteB0 (show (!inV (V.int s.rm) (([1, 2, 3, 4, 5, 6, 7, 8] : List Int).map V.int)) = false by rw [in_ints, mem8, decide_eq_true r1]; rfl) ?_⟩
    refine ⟨_, rfl, sz_5, fun p4 n4 => ?_⟩
    have w4 := same_upd (o := .tup [.int 0, .int 1, .int 2, .int 3, .int 4]) n4
    have e4 : (upd H3 p4 (.tup [.int 0, .int 1, .int 2, .int 3, .int 4])) p4 = some (.tup [.int 0, .int 1, .int 2, .int 3, .int 4]) := upd_same
    have s4 := s3.trans w4
    generalize upd H3 p4 (.tup [.int 0, .int 1, .int 2, .int 3, .int 4]) = H4 at e4 s4 ⊢
    refine ⟨p4, _, rfl, .inr (sqt e4), rfl, by decide +kernel, ?_⟩
    by_cases l1 : 0 ≤ s.lt ∧ s.lt ≤ 4
    all_goals first
      | (refine ⟨_, rfl, iteB (show (!inV (V.int s.lt) (([0, 1, 2, 3, 4] : List Int).map V.int)) = true by rw [in_ints, mem5, decide_eq_false l1]; rfl) ?_⟩
         exact qe _ (.inr (.inr (.inl ⟨c3, r1, l1, rfl⟩))) _ s4)
      | skip
    refine ⟨_, rfl, iteB0 (show (!inV (V.int s.lt) (([0, 1, 2, 3, 4] : List Int).map V.int)) = false by rw [in_ints, mem5, decide_eq_true l1]; rfl) ?_⟩
    refine ⟨_, rfl, sz_4, fun p5 n5 => ?_⟩
    have w5 := same_upd (o := .tup [.int 1, .int 2, .int 3, .int 4]) n5
    have e5 : (upd H4 p5 (.tup [.int 1, .int 2, .int 3, .int 4])) p5 = some (.tup [.int 1, .int 2, .int 3, .int 4]) := upd_same
    have s5 := s4.trans w5
    generalize upd H4 p5 (.tup [.int 1, .int 2, .int 3, .int 4]) = H5 at e5 s5 ⊢
    refine ⟨p5, _, rfl, .inr (sqt e5), rfl, by decide +kernel, ?_⟩
    by_cases m1 : 1 ≤ s.ms ∧ s.ms ≤ 4
    · refine ⟨_, rfl, iteB (show inV (V.int s.ms) (([1, 2, 3, 4] : List Int).map V.int) = true by rw [in_ints, mem4, decide_eq_true m1]) ?_⟩
      exact q (stg_good c3 r1 l1 m1) _ s5
    · refine ⟨_, rfl, iteB0 (show inV (V.int s.ms) (([1, 2, 3, 4] : List Int).map V.int) = false by rw [in_ints, mem4, decide_eq_false m1]) ?_⟩
      exact qe _ (.inr (.inr (.inr ⟨c3, r1, l1, m1, rfl⟩))) _ s5
end
end St

namespace St
open PySem PySem.Spec PyProof.Rows L2 LamX
/-! ### a comprehension whose tests may lean on what the def's own frame holds -/
section
variable {X : Cx}
theorem pe_lcI {elt tg iter : Expr} {ifs : List Expr} {scope : Scope} {own : List (Str × Nat)} {pos : Pos} {wi : TI} {g : TG} {tt : L2.St → TT} {te : TE} (calm : X.calm = true) (nd : X.N.Nodup) (pi : PI X tg iter wi) (bk : BlkOk X.N X.env.scope scope own)
    (pgB : ∀ (s0 : Shared) (H0 : Hp) (C : Addr) (cl : List (Str × Addr)) (fp : List Addr), PG (X.blk s0 H0 scope (compEnvC scope cl C X.env) fp) tg g)
    (ptB : ∀ (pins : List (Addr × Obj)) (σ : L2.St) (s0 : Shared) (H0 : Hp) (C : Addr) (cl : List (Str × Addr)) (fp : List Addr), Inv X pins σ H0 s0 → (∀ b ∈ fp, FpOk X pins H0 b) → PTs (X.blk s0 H0 scope (compEnvC scope cl C X.env) fp) ifs (tt σ))
    (peB : ∀ (s0 : Shared) (H0 : Hp) (C : Addr) (cl : List (Str × Addr)) (fp : List Addr), PE (X.blk s0 H0 scope (compEnvC scope cl C X.env) fp) elt te) (fold : ∀ x, foldedSetIterable iter X.env x = pure x := by intro _; rfl) :
    PE X (.ListComp elt [⟨tg, iter, ifs, 0⟩] scope pos) (fun σ H Q => tLc wi g (tt σ) te (own.map (·.2)) σ H Q) := by
  refine ⟨fun pins s σ H Q I want => ?_⟩
  rw [eval_ListComp]
  have caps : ∀ y ∈ scope.names, y.2 = .free → ∃ c, X.env.cells.lookup y.1 = some c := fun y hy hf => (bk.free y hy hf).elim (fun z => I.ok.has _ (.inl z)) fun z => I.ok.has _ (.inr z)
  refine wpAny_comprehension_free (use := none) rfl fold (closure_ok caps) bk.kind (fun y hy e => (bk.uniq y hy).trans (congrArg some e)) (thn (pi.run pins s σ H _ I want) fun v0 sA hA => thn hA fun v1 sB hB => ?_)
  obtain ⟨it, fp, tn, J, HB, rfl, IB, turn, stB, okB, wantB⟩ := hB
  refine wpAny_newObj_type (newEnv_comp ?_) (show 0 ≤ sizeLine by decide)
  obtain ⟨D, eD⟩ : ∃ D, D = sB.heap.objs.size := ⟨_, rfl⟩
  have newD : HB D = none := IB.hok.fresh (by omega)
  obtain ⟨W, ⟨mm, w0⟩, step⟩ := wantB D newD
  -- the list is laid
  obtain ⟨sC, eC⟩ : ∃ sC : Shared, sC = { sB with heap := sB.heap.push { cls := .type "list", data := .seq ([] : List Value).toArray } } := ⟨_, rfl⟩
  have heapC : sC.heap = sB.heap.push { cls := .type "list", data := .seq ([] : List Value).toArray } := by rw [eC]
  have atD : sC.heap.get? D = some { cls := .type "list", data := .seq ([] : List Value).toArray } := by
    rw [heapC, eD]
    exact Heap.get?_push_size _ rfl
  have keepC : ∀ b o, sB.heap.get? b = some o → sC.heap.get? b = some o := fun b o e => by
    rw [heapC]
    exact Heap.get?_push_of_some _ e
  have IC : Inv X pins σ (upd HB D (.lst [])) sC := by
    have z := IB.laid (a := D) (o := .lst []) (t' := sB.toks) (h' := sC.heap) keepC (by omega) ⟨Nat.zero_le _, [], 0, .nil, atD⟩
    rw [eC] at z ⊢
    exact z
  have ltB : ∀ b ∈ fp, b < sB.heap.objs.size := fun b hb => let ⟨o, e, _⟩ := turn.obj _ _ stB b hb; Heap.lt_size e
  have okC : ∀ b ∈ fp, FpOk X pins (upd HB D (.lst [])) b ∧ b < sC.heap.objs.size := fun b hb => by
    have l := ltB b hb
    refine ⟨⟨(upd_ne (by rw [eD]; exact Nat.ne_of_lt l)).trans (okB b hb).1, (okB b hb).2⟩, ?_⟩
    rw [heapC, Heap.size_push]
    exact Nat.lt_succ_of_lt l
  have stC : tn 0 sC.heap := turn.keep _ _ _ stB fun b _ o e => keepC b o e
  rw [show ({ sB with heap := sB.heap.push { cls := .type "list", data := .seq ([] : List Value).toArray } } : Shared) = sC from eC.symm, show (Value.ref sB.heap.objs.size) = Value.ref D by rw [eD]]
  generalize upd HB D (.lst []) = HC at IC okC w0
  have ID := block_start IC bk nd okC
  have g1 := pgB sC HC sC.heap.objs.size (cellsFrom (sC.heap.objs.size + 1) scope.names (cloFrom X.env.cells scope.names [])) fp
  have t1 := ptB pins σ sC HC sC.heap.objs.size (cellsFrom (sC.heap.objs.size + 1) scope.names (cloFrom X.env.cells scope.names [])) fp IC fun b hb => (okC b hb).1
  have e1 := peB sC HC sC.heap.objs.size (cellsFrom (sC.heap.objs.size + 1) scope.names (cloFrom X.env.cells scope.names [])) fp
  obtain ⟨sD, eSD⟩ : ∃ sD : Shared, sD = { sC with heap := pushCells (sC.heap.push { cls := .type "dict", data := .dict #[] }) scope.names } := ⟨_, rfl⟩
  have stD : tn 0 sD.heap := turn.keep _ _ _ stC fun b _ o e => by
    rw [eSD]
    exact pushCells_keeps _ _ _ _ (Heap.get?_push_of_some _ e)
  rw [← eSD] at ID
  obtain ⟨ce, eCE⟩ : ∃ ce : Env, ce = compEnvC scope (cellsFrom (sC.heap.objs.size + 1) scope.names (cloFrom X.env.cells scope.names [])) sC.heap.objs.size X.env := ⟨_, rfl⟩
  have loc : ce.locals = sC.heap.objs.size := by rw [eCE]; rfl
  rw [← eCE] at ID g1 t1 e1
  have goal : codeAny (model X.prog X.w) X.A (.compStart (.ListComp elt [⟨tg, iter, ifs, 0⟩] scope pos) 0 (.ref it) (.ref D) ce) (compPost (model X.prog X.w) X.A X.xe none (EP X pins σ Q) (.ref D) sC.heap.objs.size) sD := by
    have stays : ∀ {σ' : L2.St} {G : Hp} {s' : Shared}, Inv (X.blk sC HC scope ce fp) [] σ' G s' → (∀ b ∈ fp, G b = none) → ∀ b ∈ fp, FpOk (X.blk sC HC scope ce fp) [] G b := fun J z b hb =>
      ⟨z b hb, (J.ok.exf b hb).1, J.ok.exfs b hb, .inl hb, (J.ok.exf b hb).2, fun p hp => absurd hp (List.not_mem_nil)⟩
    have loop : codeAny (model X.prog X.w) X.A (.compLoop (.ListComp elt [⟨tg, iter, ifs, 0⟩] scope pos) 0 (.ref it) (.ref D) ce) (compPost (model X.prog X.w) X.A X.xe none (EP X pins σ Q) (.ref D) sC.heap.objs.size) sD := by
      refine compLoop_any (fun n s' => ∃ i G, Inv (X.blk sC HC scope ce fp) [] (wipe σ (own.map (·.2))) G s' ∧ tn i s'.heap ∧ (∀ b ∈ fp, G b = none) ∧ W i n G) (fun n sE hE => ?_) mm ⟨0, HC, ID, stD, fun b hb => (okC b hb).1.1, w0⟩
      obtain ⟨i, G, IE, stE, noE, wE⟩ := hE
      rcases step i n G wE with ⟨halt, done⟩ | ⟨go, Nx, less, one⟩
      · refine thnF (turn.done (X.blk sC HC scope ce fp) rfl rfl rfl calm i [] sE _ G (fun _ _ => False) IE (stays IE noE) stE halt) fun r sF ⟨er, IF⟩ => ?_
        subst er
        have back : Inv X pins σ G sF := IC.call' (ch := fp) IF.os IF.base IF.hok IF.bare fun b hb => ⟨(okC b hb).1.2.2.2.1, (okC b hb).1.2.1, (okC b hb).1.2.2.2.2.1, (okC b hb).1.2.2.2.2.2⟩
        have noC : G sC.heap.objs.size = none := by
          have z : G ce.locals = none := IF.free
          rw [loc] at z
          exact z
        obtain ⟨m, hn, _⟩ := IF.loc
        have hn : sF.heap.Ns ce.locals m := hn
        rw [loc] at hn
        obtain ⟨f0, f1, f2, f3, f4, f5⟩ := IC.fpOk (Nat.le_refl _) noC
        exact ⟨m, hn, fun h2 sb => ⟨.ref D, G, back.turned (t' := sF.toks) (fun b o hb e => (sb.2 b hb).trans e) f0 f1 f3 f4 f5, rfl, done⟩⟩
      · refine thnF (turn.item (X.blk sC HC scope ce fp) rfl rfl rfl calm i [] sE _ G (fun _ _ => False) IE (stays IE noE) stE go) fun r sF ⟨u, er, hF⟩ => ?_
        subst er
        refine thnF hF fun _ sG ⟨x, HG, IG, rx, yx, stG, noG⟩ => ?_
        have IG2 := IG.pinned (stays IG noG) (turn.obj _ _ stG)
        refine thnF (g1.run _ sG _ HG x u _ IG2 rx (one x HG yx)) fun _ sH ⟨σH, HH, IH, sameH, qH⟩ => ?_
        refine thnF (t1.run _ sH σH HH _ IH qH) fun b sI ⟨HI, II, qI⟩ => ?_
        have next : ∀ {sZ : Shared} {HZ : Hp}, Inv (X.blk sC HC scope ce fp) ([] ++ pinsAt fp sG.heap) σH HZ sZ → Nx HZ → ∃ m, m < n ∧ ∃ i G, Inv (X.blk sC HC scope ce fp) [] (wipe σ (own.map (·.2))) G sZ ∧ tn i sZ.heap ∧ (∀ b ∈ fp, G b = none) ∧ W i m G := fun {sZ HZ} IZ nx => by
          obtain ⟨m, lt, wz⟩ := less HZ nx
          have kept : ∀ b ∈ fp, ∀ o, sG.heap.get? b = some o → sZ.heap.get? b = some o ∧ HZ b = none := fun b hb o e => by
            obtain ⟨z1, z2, _⟩ := IZ.pin (b, o) (List.mem_append_right _ (List.mem_append_right _ (mem_pinsAt hb e)))
            exact ⟨z1, z2⟩
          refine ⟨m, lt, i + 1, HZ, (IZ.unpinned (pins := [])).weak (by rw [← sameH, wipe_length]) (fun j v e => ?_), turn.keep _ _ _ stG fun b hb o e => (kept b hb o e).1, fun b hb => ?_, wz⟩
          · rw [← sameH] at e
            exact (wipe_some e).1
          · obtain ⟨o, e, _⟩ := turn.obj _ _ stG b hb
            exact (kept b hb o e).2
        cases b with
        | false =>
          rw [if_neg Bool.false_ne_true] at qI ⊢
          exact next II qI
        | true =>
          rw [if_pos rfl] at qI ⊢
          refine thnF (e1.run _ sI σH HI _ II qI) fun z sJ ⟨y, HJ, IJ, ry, acc, hA, lA, nx⟩ => ?_
          exact app_ok (X := X.blk sC HC scope ce fp) IJ hA lA ry fun sK IK => next IK nx
    exact codeAny_compStart_list loop (turn.self X.A 0 _ _ _ stD loop)
  subst eCE eSD
  exact goal
end
end St

namespace St
open PySem PySem.Spec PyProof.Rows L2 LamX
/-! ### within a comprehension's block: a call with the def's own cells told -/
section
variable {X : Cx} {k : Nat} {f : Addr} {fd : FuncData} {a x : Str} {sp : Sp} {p pos : Pos} {e : Expr} {te : TE} {pins0 : List (Addr × Obj)} {σ0 : L2.St} {s0 : Shared} {H0 : Hp} {scope : Scope} {cenv : Env} {fp : List Addr}
theorem cel_fs (I0 : Inv X pins0 σ0 H0 s0) (hfn : ∀ y, X.fn y = true) {c : Addr} (h : Cel X.env.cells c) : c ∉ frs X.stack := fun z => by
  obtain ⟨y, hy⟩ := h
  rcases List.mem_cons.mp (I0.stkSub c z) with q | q
  · exact I0.cne y c hy q
  · obtain ⟨_, o, ho, _⟩ := I0.ok.funs.mem q
    exact absurd (Heap.lt_size ho) (Nat.not_lt.mpr (I0.ok.cab y c (hfn y) hy))
/-- the def's cells stay through the block -/
theorem cel_blk {pins : List (Addr × Obj)} {σ : L2.St} {H : Hp} {s : Shared} (I0 : Inv X pins0 σ0 H0 s0) (okF : ∀ b ∈ fp, FpOk X pins0 H0 b) (hfn : ∀ y, X.fn y = true) (I1 : Inv (X.blk s0 H0 scope cenv fp) pins σ H s) {c : Addr} (h : Cel X.env.cells c) {o : Obj} (ho : s0.heap.get? c = some o) : s.heap.get? c = some o ∧ H c = none := by
  have n0 : H0 c = none := no_cells I0 c h
  have nf : c ∉ fp := fun z => by
    obtain ⟨y, hy⟩ := h
    exact (okF c z).2.2.2.2.1 y c hy rfl
  have un : Un (frs X.stack) fp H0 H s0.heap s.heap := I1.base
  exact ⟨un.keep c o ho n0 (cel_fs I0 hfn h) nf, un.free c o ho n0 nf⟩
theorem told_blk {pins : List (Addr × Obj)} {σ : L2.St} {H : Hp} {s : Shared} (I0 : Inv X pins0 σ0 H0 s0) (okF : ∀ b ∈ fp, FpOk X pins0 H0 b) (hfn : ∀ y, X.fn y = true) (I1 : Inv (X.blk s0 H0 scope cenv fp) pins σ H s) : ∀ c, Cel X.env.cells c → ∃ o, told s.heap c = some (Fz o) ∧ s.heap.get? c = some o := fun c h => by
  obtain ⟨o, _, z⟩ := told_at I0 c h
  obtain ⟨z2, _⟩ := cel_blk I0 okF hfn I1 h z
  exact ⟨o, by unfold told; rw [z2]; rfl, z2⟩
theorem pub_blk {pins : List (Addr × Obj)} {σ : L2.St} {H : Hp} {s : Shared} (I0 : Inv X pins0 σ0 H0 s0) (okF : ∀ b ∈ fp, FpOk X pins0 H0 b) (hfn : ∀ y, X.fn y = true) (I1 : Inv (X.blk s0 H0 scope cenv fp) pins σ H s) : PubF X.N X.env σ0 H (over X.env.cells (told s.heap) H) := by
  have nc : NoC X.env.cells H := fun c h => by
    obtain ⟨o, _, z⟩ := told_at I0 c h
    exact (cel_blk I0 okF hfn I1 h z).2
  refine ⟨fun b o e => ?_, fun c hc => ?_, nc, fun i x v h1 h2 h3 => ?_, I0.ok.inj, I0.ok.has, I0.len⟩
  · rw [over_out fun c => by rw [nc b c] at e; cases e]
    exact e
  · obtain ⟨y, hy⟩ := hc
    obtain ⟨v, o, ho, hd⟩ := I0.cell y c hy
    obtain ⟨z2, _⟩ := cel_blk I0 okF hfn I1 ⟨y, hy⟩ ho
    refine ⟨o, v, ?_, hd⟩
    rw [over_in ⟨y, hy⟩]
    unfold told
    rw [z2]
    rfl
  · obtain ⟨m, hn, hl⟩ := I0.loc
    obtain ⟨u, r, z⟩ := hl i x v h1 h2 (vis_of x h3)
    rcases z with ⟨q, _⟩ | ⟨_, c, e, o, ho, hd⟩
    · rcases h3 with q2 | q2 <;> rw [q] at q2 <;> cases q2
    · obtain ⟨z2, _⟩ := cel_blk I0 okF hfn I1 ⟨x, e⟩ ho
      refine ⟨c, o, u, e, ?_, hd, r⟩
      rw [over_in ⟨x, e⟩]
      unfold told
      rw [z2]
      rfl
/-- x(e) in the block, the def's cells told for the while -/
theorem pe_callPubB (I0 : Inv X pins0 σ0 H0 s0) (okF : ∀ b ∈ fp, FpOk X pins0 H0 b) (hfn : ∀ y, X.fn y = true) (F : FnOk X.prog X.w X.K X.mg X.base CX0 k f fd [a] sp) (hr : Room k X.A) (hg : Gl (X.blk s0 H0 scope cenv fp) x) (hm : X.mg x = some (.ref f)) (hk : PySem.W.keepIn X.K (.ref f) = true) (hb : Binds X.K fd [a] []) (ha : PE (X.blk s0 H0 scope cenv fp) e te)
    (hdb : (x == ("__debug__" : Str)) = false := by decide) (he : starEach (e :: []) cenv = (false, eval e cenv) :: starEach [] cenv := by rfl) (hpl : (backTo pos (starEach [] cenv)).any (·.1) = false := by rfl) :
    PE (X.blk s0 H0 scope cenv fp) (.Call (.Name x p) [e] [] pos) (fun σ H Q => tCons te tNil σ H fun vs H1 => ∀ H3, PubF X.N X.env σ0 H1 H3 → sp vs H3 (fun u H4 => Q u (hide X.env.cells H4)) fun _ _ _ => False) := by
  refine ⟨fun pins s σ H Q I h => ?_⟩
  refine wpAny_Call_Name_kw (ld_glob I hg hm ?_ hdb)
  refine PySem.W.callWith_K (h₀ := X.base) I.ok.mod.kin hk (thn ((pa_cons ha pa_nil he).run pos pins s σ H _ I h) fun us s1 ⟨vs, H1, I1, r, q⟩ => ⟨I1.kIn, ?_⟩) he hpl
  have nc : NoC X.env.cells H1 := fun c h => by
    obtain ⟨o, _, z⟩ := told_at I0 c h
    exact (cel_blk I0 okF hfn I1 h z).2
  have ta := told_blk I0 okF hfn I1
  have pf := pub_blk I0 okF hfn I1
  have e0 := I1.env0
  have e3 : Env0 X.prog X.w X.K X.mg X.base X.A X.stack s1 (over X.env.cells (told s1.heap) H1) := by
    refine ⟨e0.frames, e0.mod, fun b o e => ⟨(e0.bs b o e).1, ?_⟩, e0.bsz, e0.funs, fun b hb => ?_, hok_over I1.hok nc ta, e0.bare⟩
    · have out : ¬ Cel X.env.cells b := fun ⟨y, hy⟩ => absurd (Nat.lt_of_lt_of_le (Heap.lt_size e) I0.ok.bsz) (Nat.not_lt.mpr (I0.ok.cab y b (hfn y) hy))
      rw [over_out out]
      exact (e0.bs b o e).2
    · rw [over_out fun z => cel_fs I0 hfn z hb]
      exact e0.frf b hb
  have hl := F.len _ _ _ _ (q _ pf)
  have bd := hb s1 us I1.kIn (by rw [List.append_nil, ← r.length]; exact hl)
  rw [List.append_nil] at bd
  refine wpAny_call (codeAny_mono (F.run X.A X.stack s1 _ ⟨us, []⟩ us vs _ _ hr e3 bd r (q _ pf)) fun r s' hq => ?_)
  cases r with
  | error e => exact False.elim hq
  | ok fl =>
    cases fl with
    | ret u =>
      obtain ⟨v, H4, os, bare, un, ok, rv, q4⟩ := hq
      refine I1.after ⟨v, hide X.env.cells H4, os, bare, un_hide un ok ta nc, hok_hide2 ok (fun c hc => ?_), rv, q4⟩
      obtain ⟨o, e1, _⟩ := ta c hc
      exact ⟨o, un.frzs c o _ (by rw [over_in hc]; exact e1)⟩
    | next => exact False.elim hq
    | brk => exact False.elim hq
    | cont => exact False.elim hq
end
end St

namespace St
open PySem PySem.Spec PyProof.Rows L2
/-! ### the law's script, as the end with tables hands it -/
/-- a law with tables of code objects: the script known -/
def spLawT (K : PySem.W.Frag) (TT : List (Addr × Str)) : Sp := fun vs H Q _ => ∃ (a : Addr) (ns : List Int), vs = [.ref a] ∧ Sc K H a (ns.map V.int) ∧ LamX.Tabs TT H ∧ ∀ H', Q (.bl true) H'
/-- .. or a list like others -/
def spLawQ (K : PySem.W.Frag) (TT : List (Addr × Str)) : Sp := fun vs H Q _ => ∃ (a : Addr) (ns : List Int), vs = [.ref a] ∧ SqL K H a (ns.map V.int) ∧ LamX.Tabs TT H ∧ ∀ H', Q (.bl true) H'
theorem frozen {P : Program} {w : World} {H : Hp} {h : Heap} {a : Addr} {xs : List V} (ok : HOk P w H h) (e : H a = some (.lst xs)) : ∃ o, HOk P w (upd H a (.frz o (.lst xs))) h := by
  have z := ok a _ e
  obtain ⟨hz, its, n, ri, eo⟩ := z
  refine ⟨⟨.type "list", none, .seq its.toArray n, #[]⟩, fun b u q => ?_⟩
  by_cases c : b = a
  · subst c
    rw [upd_same] at q
    cases Option.some.inj q
    exact ⟨eo, hz, its, n, ri, eo⟩
  · rw [upd_ne c] at q
    have ne : ∀ {d : Addr} {o : HO}, H d = some o → (∀ ys, o ≠ .lst ys) → d ≠ a := fun q k z => by
      subst z
      rw [e] at q
      exact k _ (Option.some.inj q).symm
    exact (ok b u q).stay (fun _ _ _ q => q) (fun d q => by rw [upd_ne (ne q (fun ys z => by cases z))]; exact q) fun d xs q => by rw [upd_ne (ne q (fun ys z => by cases z))]; exact q
theorem un_frozen {fs : List Addr} {H H' : Hp} {h h' : Heap} {a : Addr} {xs : List V} {o : Obj} (un : Un fs [] (upd H a (.frz o (.lst xs))) H' h h') (e : H a = some (.lst xs)) : Un fs [] H H' h h' := by
  have nn : ∀ {b : Addr}, H b = none → (upd H a (.frz o (.lst xs))) b = none := fun {b} q => by
    rw [upd_ne (fun z => by rw [z, e] at q; cases q)]
    exact q
  have ns : ∀ {b : Addr} {u : HO}, H b = some u → (∀ ys, u ≠ .lst ys) → (upd H a (.frz o (.lst xs))) b = some u := fun {b u} q k => by
    rw [upd_ne (fun z => by rw [z, e] at q; exact k _ (Option.some.inj q).symm)]
    exact q
  exact ⟨fun b o q n => un.keep b o q (nn n), fun b o q n => un.slot b o q (nn n), fun b o q n => un.free b o q (nn n), un.there, fun b xs q => un.tups b xs (ns q (fun ys z => by cases z)), fun b o v q => un.frzs b o v (ns q (fun ys z => by cases z)), fun b ps q => un.tbls b ps (ns q (fun ys z => by cases z))⟩
theorem fn_thaw {P : Program} {w : World} {K : PySem.W.Frag} {mg : Str → Option Value} {base : Heap} {k : Nat} {f : Addr} {fd : FuncData} {x : Str} {TT : List (Addr × Str)} (F : FnOk P w K mg base CX0 k f fd [x] (spLawT K TT)) : FnOk P w K mg base CX0 k f fd [x] (spLawQ K TT) := by
  refine ⟨fun vs H Q E ⟨a, ns, e, _⟩ => by rw [e]; rfl, fun A outer s H args us vs Q E hr e0 hb r h => ?_⟩
  obtain ⟨a, ns, rfl, hS, hT, q⟩ := h
  rcases hS with (hS | ⟨o, hS⟩) | hS
  · obtain ⟨o, ok⟩ := frozen e0.hok hS
    have nn : ∀ {b : Addr}, H b = none → (upd H a (.frz o (.lst (ns.map V.int)))) b = none := fun {b} q => by
      rw [upd_ne (fun z => by rw [z, hS] at q; cases q)]
      exact q
    have ns' : ∀ {b : Addr} {u : HO}, H b = some u → (∀ ys, u ≠ .lst ys) → (upd H a (.frz o (.lst (ns.map V.int)))) b = some u := fun {b u} q k => by
      rw [upd_ne (fun z => by rw [z, hS] at q; exact k _ (Option.some.inj q).symm)]
      exact q
    have hT' : LamX.Tabs TT (upd H a (.frz o (.lst (ns.map V.int)))) := fun p hp => by
      obtain ⟨ps, h1, h2, h3⟩ := hT p hp
      refine ⟨ps, ns' h1 (fun ys z => by cases z), h2, fun pos cv hc => ?_⟩
      obtain ⟨c, a1, b1⟩ := h3 pos cv hc
      exact ⟨c, a1, ns' b1 (fun ys z => by unfold LamX.CodeO at z; cases z)⟩
    have e1 : Env0 P w K mg base A outer s (upd H a (.frz o (.lst (ns.map V.int)))) := ⟨e0.frames, e0.mod, fun b o e => ⟨(e0.bs b o e).1, nn (e0.bs b o e).2⟩, e0.bsz, e0.funs, fun b hb => nn (e0.frf b hb), ok, e0.bare⟩
    refine codeAny_mono (F.run A outer s _ args us _ Q E hr e1 hb r ⟨a, ns, rfl, .inl ⟨o, upd_same⟩, hT', q⟩) fun r s' hq => ?_
    cases r with
    | error e => exact False.elim hq
    | ok fl =>
      cases fl with
      | ret u =>
        obtain ⟨v, H', os, bare, un, ok', rv, q'⟩ := hq
        exact ⟨v, H', os, bare, un_frozen un hS, ok', rv, q'⟩
      | next => exact False.elim hq
      | brk => exact False.elim hq
      | cont => exact False.elim hq
  · exact F.run A outer s H args us _ Q E hr e0 hb r ⟨a, ns, rfl, .inl ⟨o, hS⟩, hT, q⟩
  · exact F.run A outer s H args us _ Q E hr e0 hb r ⟨a, ns, rfl, .inr hS, hT, q⟩
end St

namespace St
open PySem PySem.Spec PyProof.Rows L2
abbrev s_law : Stmt := topS 68
abbrev N_law : List Str := ["_law_script", "_law_row", "_law_turn", "_law_good", "_law_setting_here", "_law_odd", "_law_why_here", "_law_due", "_law_works_here", "_law_work"]
abbrev p_law : List Str := ["_law_script"]
theorem sc_law : FnScope N_law p_law (defScope s_law) := ⟨rfl, rfl, rfl, by decide +kernel, rfl, by decide +kernel, by decide +kernel⟩
theorem fn_weak {P : Program} {w : World} {K : PySem.W.Frag} {mg : Str → Option Value} {base : Heap} {CX : CXT} {k : Nat} {f : Addr} {fd : FuncData} {ps : List Str} {sp sp' : Sp} (F : FnOk P w K mg base CX k f fd ps sp) (h : ∀ vs H Q E, sp' vs H Q E → sp vs H Q E) : FnOk P w K mg base CX k f fd ps sp' :=
  ⟨fun vs H Q E z => F.len vs H Q E (h _ _ _ _ z), fun A outer s H args us vs Q E hr e0 hb r z => F.run A outer s H args us vs Q E hr e0 hb r (h _ _ _ _ z)⟩
/-- what a setting's look tells -/
def WhyW (s : Stg) (w : Str) : Prop := (s.Good ∧ w = "") ∨ WhyS s w
def spWhy2 (K : PySem.W.Frag) : Sp := fun vs H Q _ => ∃ (a : Addr) (s : Stg) (w : Str), vs = [.ref a] ∧ IsSet K H a s ∧ s.mem.length ≤ 1000 ∧ WhyW s w ∧ ∀ H', Same H H' → Q (.str w) H'
theorem why_words {s : Stg} {w : Str} (h : WhyS s w) : w ≠ "" ∧ PyData.canLay0 (.str w) = true := by
  have key : ∀ w ∈ (["memory", "room", "late", "most"] : List Str), w ≠ "" ∧ PyData.canLay0 (.str w) = true := by decide +kernel
  refine key w ?_
  rcases h with ⟨_, rfl⟩ | ⟨_, _, rfl⟩ | ⟨_, _, _, rfl⟩ | ⟨_, _, _, _, rfl⟩ <;> decide
/-- what a setting and a guesser, one of them none, are due -/
def DueE (s : Stg) (g : G) (o : Out) : Prop := (∃ w, WhyS s w ∧ o = .set w) ∨ (s.Good ∧ isG 0 g = false ∧ o = .gue)
theorem dueE_no {s : Stg} {g : G} {o : Out} (h : DueE s g o) : ¬ (s.Good ∧ isG 0 g = true) := fun z => by
  rcases h with ⟨w, hw, _⟩ | ⟨_, n, _⟩
  · exact why_not hw z.1
  · rw [n] at z; exact nomatch z.2
theorem tell_of {c : EC} {s : Stg} {g : G} {o : Out} {H : Hp} {Q : VK} {E : XK} (h : DueE s g o) (f : Fate c o H Q E) : Tell c s g H E := by
  rcases h with ⟨w, hw, rfl⟩ | ⟨gs, n, rfl⟩
  · exact ⟨fun w' hw' => by rw [why_one hw' hw]; exact f, fun gs => (why_not hw gs).elim⟩
  · exact ⟨fun w hw => (why_not hw gs).elim, fun _ _ => f⟩
section
variable {P : Program} {w : World} {K : PySem.W.Frag} {mg : Str → Option Value} {base : Heap} {ec : EC} {H3 : Hp} {f sa : Addr} {v v3 v4 : V} {s : Stg} {g : G} {o : Out}
theorem allE_fated (W : WorkAt P w K mg base 14 H3 f (fun H Q E => spAllE K ec [.ref sa, v, v3] H Q E)) (C : Odd K H3 sa v s g) (ho : DueE s g o) : Fated P w K mg base 14 ec o H3 f :=
  W.fated fun H e Q E f => ⟨sa, v, v3, s, g, rfl, C.imm e.imm, tell_of ho f⟩
theorem costE_fated (W : WorkAt P w K mg base 14 H3 f (fun H Q E => spCostE K ec [.ref sa, v, v3, v4] H Q E)) (C : Odd K H3 sa v s g) (ho : DueE s g o) : Fated P w K mg base 14 ec o H3 f :=
  W.fated fun H e Q E f => ⟨sa, v, v3, v4, s, g, rfl, C.imm e.imm, tell_of ho f⟩
theorem heldE_fated (W : WorkAt P w K mg base 14 H3 f (fun H Q E => ∀ u l H1, Same H H1 → H1 u = some (.tup [.str "none"]) → H1 l = some (.lst [.ref u, v]) → spHeldE K ec [.ref sa, .ref l, v3, v4] H1 Q E)) (C : Odd K H3 sa v s g) (ho : DueE s g o) : Fated P w K mg base 14 ec o H3 f :=
  W.fated fun H e Q E f u l H1 s1 eu el => ⟨sa, l, .ref u, v, v3, v4, s, g, rfl, (C.imm e.imm).imm (Imm.same s1), sql el, ⟨u, rfl, sqt eu⟩, (tell_of ho f).after s1⟩
theorem worstE_fated (W : WorkAt P w K mg base 14 H3 f (fun H Q E => ∀ u H1, Same H H1 → H1 u = some (.tup [.str "none"]) → spWorstE K ec [.ref sa, v, .ref u, v4, .int 0, .int 9] H1 Q E)) (C : Odd K H3 sa v s g) (ho : DueE s g o) : Fated P w K mg base 14 ec o H3 f :=
  W.fated fun H e Q E f u H1 s1 eu => ⟨sa, v, v, .ref u, v4, .int 0, .int 9, s, g, rfl, (C.imm e.imm).imm (Imm.same s1), .inl rfl, (tell_of ho f).after s1⟩
theorem worstE2_fated (W : WorkAt P w K mg base 14 H3 f (fun H Q E => ∀ u H1, Same H H1 → H1 u = some (.tup [.str "none"]) → spWorstE K ec [.ref sa, .ref u, v, v4, .int 0, .int 9] H1 Q E)) (C : Odd K H3 sa v s g) (ho : DueE s g o) : Fated P w K mg base 14 ec o H3 f :=
  W.fated fun H e Q E f u H1 s1 eu => ⟨sa, v, .ref u, v, v4, .int 0, .int 9, s, g, rfl, (C.imm e.imm).imm (Imm.same s1), .inr ⟨rfl, u, rfl, sqt eu⟩, (tell_of ho f).after s1⟩
/-- all in a list become so -/
def AllF (P : Program) (w : World) (K : PySem.W.Frag) (mg : Str → Option Value) (base : Heap) (ec : EC) (o : Out) (H : Hp) (vs : List V) : Prop := ∀ y ∈ vs, ∃ f, y = V.ref f ∧ Fated P w K mg base 14 ec o H f
theorem AllF.after {H4 : Hp} {vs : List V} (h : AllF P w K mg base ec o H3 vs) (s : Same H3 H4) : AllF P w K mg base ec o H4 vs := fun y hy => let ⟨f, e, q⟩ := h y hy; ⟨f, e, q.after s⟩
end
section
variable {P : Program} {w : World} {K : PySem.W.Frag} {mg : Str → Option Value} {base : Heap} {f c p fT fS fO fP fY fI fW fX f1 f2 f3 : Addr} {fd fdT fdS fdO fdP fdY fdI fdW fdX fd1 fd2 fd3 : FuncData} {TT : List (Addr × Str)} {ec : EC}
theorem ok_law (T : Nms mg) (D__law_taken : Df K mg "_law_taken" s__law_taken p__law_taken fT fdT) (D__law_setting : Df K mg "_law_setting" s__law_setting p__law_setting fS fdS) (D__law_odd_guesser : Df K mg "_law_odd_guesser" s__law_odd_guesser p__law_odd_guesser fO fdO)
    (D__law_spoilt : Df K mg "_law_spoilt" s__law_spoilt p__law_spoilt fP fdP) (D__law_why : Df K mg "_law_why" s__law_why p__law_why fY fdY) (D__law_is_guesser : Df K mg "_law_is_guesser" s__law_is_guesser p__law_is_guesser fI fdI)
    (D__law_works : Df K mg "_law_works" s__law_works p__law_works fW fdW) (G__law_works : FnOk P w K mg base CX0 2 fW fdW p__law_works (spWk1 P w K mg base TT ec)) (D__law_word : Df K mg "_law_word" s__law_word p__law_word fX fdX) (G__law_word : FnOk P w K mg base CX0 15 fX fdX p__law_word (spWord P w K mg base 14 ec))
    (D_guesses : Df K mg "guesses" s_guesses p_guesses f1 fd1) (G_guesses : FnOk P w K mg base (L2.CX P w) 8 f1 fd1 p_guesses (fun vs H Q E => spGuesE K ec vs H Q E ∨ ∀ E, spGuesses K vs H Q E))
    (D_written : Df K mg "written" s_written p_written f2 fd2) (G_written : FnOk P w K mg base (L2.CX P w) 8 f2 fd2 p_written (fun vs H Q E => spWritE K ec vs H Q E ∨ ∀ E, spWritten K vs H Q E))
    (D_run : Df K mg "run" s_run p_run f3 fd3) (G_run : FnOk P w K mg base (L2.CX P w) 12 f3 fd3 p_run (spRunX K ec.B))
    (TB_law : LamX.TabB base mg c p) (hm_law : (p, ("law.<locals>." : Str) ++ "<lambda>") ∈ TT) (hu_law : ∀ q ∈ TT, q.1 = p → q.2 = ("law.<locals>." : Str) ++ "<lambda>")
    (F : FunC K "law" "law" s_law f c fd) : FnOk P w K mg base CX0 16 f fd p_law (spLawT K TT) := by
  have G__law_taken : FnOk P w K mg base CX0 1 fT fdT p__law_taken (spTaken K) := ok__law_taken D__law_taken.F T
  have G__law_setting : FnOk P w K mg base CX0 2 fS fdS p__law_setting (spSetting K) := ok__law_setting T D__law_taken D__law_setting.F
  have G__law_odd_guesser : FnOk P w K mg base CX0 2 fO fdO p__law_odd_guesser (spOdG K) := ok__law_odd_guesser T D__law_taken D__law_odd_guesser.F
  have G__law_spoilt : FnOk P w K mg base CX0 2 fP fdP p__law_spoilt (spSpoi K) := ok__law_spoi T D__law_taken D__law_spoilt.F
  have G__law_is_guesser : FnOk P w K mg base CX0 5 fI fdI p__law_is_guesser (spLIG K 5) := ok__law_is_guesser T D__law_is_guesser 5
  have G__law_why : FnOk P w K mg base CX0 1 fY fdY p__law_why (spWhy2 K) := fn_weak (ok__law_why T D__law_why.F) fun vs H Q E ⟨a, s, w, e, hS, l, hw, q⟩ => ⟨a, s, e, hS, l, fun gs H' s1 => by
    rcases hw with ⟨_, rfl⟩ | hw
    · exact q H' s1
    · exact (why_not hw gs).elim, fun w' hw' H' s1 => by
    rcases hw with ⟨gs, _⟩ | hw
    · exact (why_not hw' gs).elim
    · rw [why_one hw' hw]; exact q H' s1⟩
  refine F.ok sc_law (fun vs H Q E h => ?_) (fun A outer s H vs Q E hr h => ?_)
  · obtain ⟨a, ns, rfl, _⟩ := h
    rfl
  obtain ⟨a, ns, rfl, hSc, hT, q⟩ := h
  refine ⟨_, (pss_cons (ps_set (i := 1) sc_law.nd rfl (Or.inl rfl) (pe_lst (pa_cons (pv 0) (pa_cons pe_int (pa_cons pe_int pa_nil)))))
  (pss_cons (ps_for PassesOwn.never rfl (pi_range1 rfl T.n_range (pa_cons pe_int pa_nil)) (pg_name (i := 2) sc_law.nd rfl (Or.inl rfl))
    (pss_cons (ps_set (i := 3) sc_law.nd rfl (Or.inl rfl) (pe_call G__law_setting (hr.mono (by first | decide | omega)) (by rfl) D__law_setting.m D__law_setting.F.kp D__law_setting.b .nil pass0 (pa_cons (pv 1) (pa_cons pe_int pa_nil))))
    (pss_cons (ps_set (i := 4) sc_law.nd rfl (Or.inr rfl) (pe_call G__law_spoilt (hr.mono (by first | decide | omega)) (by rfl) D__law_spoilt.m D__law_spoilt.F.kp D__law_spoilt.b .nil pass0 (pa_cons (pv 1) (pa_cons (pv 3) pa_nil))))
    (Evl.pss_cut (ps_if (pt_cmpR op_eq (pe_call G__law_taken (hr.mono (by first | decide | omega)) (by rfl) D__law_taken.m D__law_taken.F.kp D__law_taken.b .nil pass0 (pa_cons (pv 1) (pa_cons pe_int pa_nil))) pe_int (nomark _))
      (pss_one (ps_set (i := 4) sc_law.nd rfl (Or.inr rfl) (pe_call G__law_spoilt (hr.mono (by first | decide | omega)) (by rfl) D__law_spoilt.m D__law_spoilt.F.kp D__law_spoilt.b .nil pass0 (pa_cons (pv 1) (pa_cons (pv 4) pa_nil)))))
      (pss_nil))
    (pss_cons (ps_set (i := 5) sc_law.nd rfl (Or.inr rfl) (pe_call G__law_odd_guesser (hr.mono (by first | decide | omega)) (by rfl) D__law_odd_guesser.m D__law_odd_guesser.F.kp D__law_odd_guesser.b .nil pass0 (pa_cons (pv 1) pa_nil)))
    (pss_cons (ps_set (i := 6) sc_law.nd rfl (Or.inr rfl) (pe_call G__law_why (hr.mono (by first | decide | omega)) (by rfl) D__law_why.m D__law_why.F.kp D__law_why.b .nil pass0 (pa_cons (pv 4) pa_nil)))
    (Evl.pss_cut (ps_if (pt_cmpR op_ne (pv 6) pe_str (nomark _))
      (pss_one (ps_if (pt_cmpR (op_neD hr.units) (pe_lcI (own := [("_law_work", 9)]) (g := gName 9) rfl sc_law.nd (pi_list (pe_call G__law_works (hr.mono (by first | decide | omega)) (by rfl) D__law_works.m D__law_works.F.kp D__law_works.b .nil pass0 (pa_cons (pv 4) (pa_cons (pv 5) (pa_cons (pe_lst (pa_cons (pe_tup pa_nil) pa_nil)) (pa_cons (pe_tup pa_nil) pa_nil)))))) (blkOk_by (own := [("_law_work", 9)]) (N := N_law) (sc := defScope s_law) (by decide +kernel)) (fun _ _ _ _ _ => pg_name (i := 9) sc_law.nd rfl (Or.inl rfl)) (fun pins0 σ0 s0 H0 _ _ fp I0 okF => pts_one (pt_cmpR (neD_K (K := K) hr.units) (pe_callPubB I0 okF (fun _ => rfl) G__law_word (hr.mono (by first | decide | omega)) (by rfl) D__law_word.m D__law_word.F.kp D__law_word.b (pv 9)) (pe_tup (pa_cons pe_str (pa_cons (pv 6) pa_nil))) (nomark _))) (fun _ _ _ _ _ => (pv 9))) (pe_lst pa_nil) (nomark _))
        (pss_one (ps_ret pe_bl))
        (pss_nil)))
      (pss_nil))
    (pss_cons (ps_set (i := 7) sc_law.nd rfl (Or.inr rfl) (pe_call G__law_is_guesser (hr.mono (by first | decide | omega)) (by rfl) D__law_is_guesser.m D__law_is_guesser.F.kp D__law_is_guesser.b .nil pass0 (pa_cons (pv 5) (pa_cons pe_int pa_nil))))
    (pss_cons (ps_set (i := 8) sc_law.nd rfl (Or.inl rfl) (pe_lst (pa_cons (pe_lamM TB_law rfl hm_law hu_law (LamX.lamS_by (by rfl))) pa_nil)))
    (pss_cons (ps_expr (pe_bm PySem.F.plainAttrs_list PySem.F.slot_list_append PySem.F.type_list_append mt_append (pv 8) (pa_cons (pe_lamM TB_law rfl hm_law hu_law (LamX.lamS_by (by rfl))) pa_nil)))
    (Evl.pss_cut (ps_if (pt_not (pt_val (pv 7)))
      (pss_one (ps_set (i := 8) sc_law.nd rfl (Or.inl rfl) (pe_op op_cat (pv 8) (pe_call G__law_works (hr.mono (by first | decide | omega)) (by rfl) D__law_works.m D__law_works.F.kp D__law_works.b .nil pass0 (pa_cons (pv 3) (pa_cons (pv 5) (pa_cons (pe_lst (pa_cons (pe_tup pa_nil) pa_nil)) (pa_cons (pe_tup pa_nil) pa_nil))))))))
      (pss_nil))
    (pss_cons (ps_if (pt_cmpR (op_neD hr.units) (pe_lcI (own := [("_law_work", 9)]) (g := gName 9) rfl sc_law.nd (pi_list (pv 8)) (blkOk_by (own := [("_law_work", 9)]) (N := N_law) (sc := defScope s_law) (by decide +kernel)) (fun _ _ _ _ _ => pg_name (i := 9) sc_law.nd rfl (Or.inl rfl)) (fun pins0 σ0 s0 H0 _ _ fp I0 okF => pts_one (pt_cmpR (neD_K (K := K) hr.units) (pe_callPubB I0 okF (fun _ => rfl) G__law_word (hr.mono (by first | decide | omega)) (by rfl) D__law_word.m D__law_word.F.kp D__law_word.b (pv 9)) (pe_ix (ix_listK (K := K)) (pe_lst (pa_cons (pe_tup (pa_cons pe_str (pa_cons pe_non pa_nil))) (pa_cons (pe_tup (pa_cons pe_str (pa_cons pe_non pa_nil))) pa_nil))) (pe_callTy call_int1 (by rfl) T.n_int (by decide +kernel) (pa_cons (pv 7) pa_nil)) (fun _ _ => rfl)) (nomark _))) (fun _ _ _ _ _ => (pv 9))) (pe_lst pa_nil) (nomark _))
      (pss_one (ps_ret pe_bl))
      (pss_nil))
    (pss_one (ps_if (PW.pt (pw_and (pt_cmpR op_eq (pv 6) pe_str (nomark _)) (pw_and (pt_val (pv 7)) (pw_and1 (pt_cmpR (op_neD hr.units) (pe_callPub G__law_word (hr.mono (by first | decide | omega)) (by rfl) D__law_word.m D__law_word.F.kp D__law_word.b (fun _ => rfl) (pe_lamM TB_law rfl hm_law hu_law (LamX.lamS_by (by rfl)))) (pe_tup (pa_cons pe_str (pa_cons pe_non pa_nil))) (nomark _))))))
      (pss_one (ps_ret pe_bl))
      (pss_nil)))))))))))))))
  (pss_one (ps_ret pe_bl)))), ?_⟩
  refine ⟨_, rfl, sz_3, fun r nr => ?_⟩
  have w0 := same_upd (o := .lst [.ref a, .int 0, .int 0]) nr
  have hR : Row K (upd H r (.lst [.ref a, .int 0, .int 0])) r := ⟨a, ns, 0, 0, upd_same, hSc.imm (Imm.same w0), by omega⟩
  have hT := hT.ext w0
  generalize upd H r (.lst [.ref a, .int 0, .int 0]) = H1 at hR hT ⊢
  clear w0 nr hSc
  refine ⟨4, rfl, by decide, by decide, ?_⟩
  refine for_range (lo := 0) (n := ((4 : Int)).toNat) (fun i σ H' => ∃ y2 y3 y4 y5 y6 y7 y8, σ = [some (.ref a), some (.ref r), y2, y3, y4, y5, y6, y7, y8, none] ∧ Row K H' r ∧ LamX.Tabs TT H')
    ⟨none, none, none, none, none, none, none, rfl, hR, hT⟩ (fun i σ H' hi h => ?_) (fun σ H' h => ?_)
  · clear hR hT
    obtain ⟨y2, y3, y4, y5, y6, y7, y8, rfl, hR, hT⟩ := h
    refine ⟨_, rfl, r, 32, rfl, hR, by decide, by decide, fun ga s0 H2 s2 R2 hS0 gS0 l0 => ?_⟩
    have hT := tabs_x hT s2 hR.at_
    clear s2 hR
    have gm2 := gS0.m2
    refine ⟨_, rfl, _, rfl, r, ga, s0, rfl, R2, hS0, by omega, fun sa s1 H3 s3 R3 hS1 l1 => ?_⟩
    have hT := tabs_x hT s3 R2.at_
    have hS0 := hS0.imm (Imm.sameX s3 R2.at_)
    clear s3 R2
    have g4 : ∃ (sa : Addr) (s1 : Stg), ([some (.ref a), some (.ref r), some (.int (0 + ((i : Nat) : Int))), some (.ref ga), some (.ref sa), y5, y6, y7, y8, none] : L2.St) = [some (.ref a), some (.ref r), some (.int (0 + ((i : Nat) : Int))), some (.ref ga), some (.ref sa), y5, y6, y7, y8, none] ∧ IsSet K H3 sa s1 ∧ s1.mem.length ≤ 40 ∧ IsSet K H3 ga s0 ∧ Row K H3 r ∧ LamX.Tabs TT H3 := ⟨sa, s1, rfl, hS1, l1, hS0, R3, hT⟩
    refine ⟨fun σ' H' => ∃ (sa : Addr) (s1 : Stg), σ' = [some (.ref a), some (.ref r), some (.int (0 + ((i : Nat) : Int))), some (.ref ga), some (.ref sa), y5, y6, y7, y8, none] ∧ IsSet K H' sa s1 ∧ s1.mem.length ≤ 40 ∧ IsSet K H' ga s0 ∧ Row K H' r ∧ LamX.Tabs TT H', ?_, fun σ4 H4 g4 => ?_⟩
    · refine ⟨_, rfl, r, 3, rfl, R3, by decide, fun x H4 x0 x1 s4 R4 => ?_⟩
      have hT4 := tabs_x hT s4 R3.at_
      have i4 := Imm.sameX s4 R3.at_
      refine ⟨rfl, _, rfl, ?_⟩
      by_cases cx : x = 2
      · refine iteB (decide_eq_true (congrArg V.int cx)) ?_
        refine ⟨_, rfl, _, rfl, r, sa, s1, rfl, R4, hS1.imm i4, l1, fun sb s5 H5 s6 R5 hS5 l5 => ?_⟩
        exact ⟨sb, s5, rfl, hS5, l5, (hS0.imm i4).imm (Imm.sameX s6 R4.at_), R5, tabs_x hT4 s6 R4.at_⟩
      · refine iteB0 (decide_eq_false fun z => cx (V.int.inj z)) ?_
        exact ⟨sa, s1, rfl, hS1.imm i4, l1, hS0.imm i4, R4, hT4⟩
    clear hS1 l1 hS0 R3 hT
    obtain ⟨sa, s1, rfl, hS1, l1, hS0, R4, hT⟩ := g4
    refine ⟨_, rfl, r, rfl, R4, fun g v H5 s5 R5 hG hO => ?_⟩
    have i5 := Imm.sameX s5 R4.at_
    have hT := tabs_x hT s5 R4.at_
    have hS1 := hS1.imm i5
    have hS0 := hS0.imm i5
    have wfG := oddG_wf hO
    obtain ⟨wy, hwy⟩ : ∃ wy, WhyW s1 wy := by
      rcases why_or s1 with gs | ⟨w, hw⟩
      · exact ⟨_, .inl ⟨gs, rfl⟩⟩
      · exact ⟨w, .inr hw⟩
    refine ⟨_, rfl, sa, s1, wy, rfl, hS1, by omega, hwy, fun H6 s6 => ?_⟩
    have hT := hT.ext s6
    have hS1 := hS1.imm (Imm.same s6)
    have hS0 := hS0.imm (Imm.same s6)
    have hG := hG.same s6
    have R6 := R5.same s6
    clear s5 s6 R4 R5 i5
    refine ⟨fun σ' H' => σ' = [some (.ref a), some (.ref r), some (.int (0 + ((i : Nat) : Int))), some (.ref ga), some (.ref sa), some v, some (.str wy), y7, y8, none] ∧ LamX.ExtN H6 H' ∧ LamX.Tabs TT H', ?_, fun σ7 H7 g7 => ?_⟩
    · refine ⟨_, rfl, rfl, _, rfl, ?_⟩
      by_cases hw : WhyS s1 wy
      · obtain ⟨wn, wl⟩ := why_words hw
        refine iteB (by rw [decide_eq_false (fun z => wn (V.str.inj z))]; rfl) ?_
        refine ⟨_, rfl, _, rfl, Nat.zero_le _, fun p0 n0 => ?_⟩
        have w0 := same_upd (o := .tup []) n0
        generalize upd H6 p0 (.tup []) = A0 at w0 ⊢
        refine ⟨sz_1, fun l0 m0 => ?_⟩
        have w1 := same_upd (o := .lst [.ref p0]) m0
        generalize upd A0 l0 (.lst [.ref p0]) = A1 at w1 ⊢
        refine ⟨Nat.zero_le _, fun p1 n1 => ?_⟩
        have w2 := same_upd (o := .tup []) n1
        generalize upd A1 p1 (.tup []) = A2 at w2 ⊢
        have sA := (w0.trans w1).trans w2
        refine ⟨.ref sa, v, .ref l0, .ref p1, rfl, hT.ext sA, fun D g1 g2 g3 g4 g5 g6 H7 x7 T7 eD W1 W2 W3 W4 W5 W6 => ?_⟩
        have x67 := (LamX.ExtN.of sA).trans x7
        have k7 := Kp.ext x67
        have due : DueE s1 g (.set wy) := .inl ⟨wy, hw, rfl⟩
        have C : Odd K H7 sa v s1 g := ⟨hS1.imm k7.imm, by omega, hG.imm k7.imm, wfG, dueE_no due⟩
        have all : AllF P w K mg base ec (.set wy) H7 [.ref g1, .ref g2, .ref g3, .ref g4, .ref g5, .ref g6] := fun y hy => by
          simp only [List.mem_cons, List.not_mem_nil, or_false] at hy
          rcases hy with rfl | rfl | rfl | rfl | rfl | rfl
          · exact ⟨_, rfl, allE_fated W1 C due⟩
          · exact ⟨_, rfl, allE_fated W2 C due⟩
          · exact ⟨_, rfl, costE_fated W3 C due⟩
          · exact ⟨_, rfl, heldE_fated W4 C due⟩
          · exact ⟨_, rfl, worstE_fated W5 C due⟩
          · exact ⟨_, rfl, worstE2_fated W6 C due⟩
        clear W1 W2 W3 W4 W5 W6 C w0 w1 w2 n0 m0 n1
        refine ⟨D, rfl, ⟨_, sql eD⟩, fun M nM => ?_⟩
        refine lc_list (xs := [.ref g1, .ref g2, .ref g3, .ref g4, .ref g5, .ref g6]) (fun j H' => Same H7 H' ∧ H' M = some (.lst [])) ⟨same_upd nM, upd_same⟩ (fun j H' _ h => sql (h.1 _ _ eD)) (fun j y H' hj h => ?_) (fun H' h => ?_)
        · obtain ⟨s8, eM⟩ := h
          obtain ⟨f0, rfl, ts, Rn, hts⟩ := all y (List.mem_of_getElem? hj)
          refine ⟨rfl, _, rfl, fun H8 pf => ⟨f0, ts, .set wy, rfl, Rn, hts _ (s8.trans pf.same), fun p9 H9 s9 np9 ep9 => ?_⟩⟩
          obtain ⟨pa1, pa2⟩ := pub_after pf s9
          have ep := pa2 _ _ ep9
          refine ⟨_, rfl, sz_2, fun p10 n10 => ne_out (o := .set wy) (same_t (same_upd n10) (sqt ep)) (sqt upd_same) (shp_out (by intro w e; cases e; exact wl)) ⟨_, rfl, iteB0 rfl ?_⟩⟩
          have sF := pa1.trans (same_upd (o := .tup [.str "setting", .str wy]) n10)
          exact ⟨s8.trans sF, sF _ _ eM⟩
        · obtain ⟨s8, eM⟩ := h
          refine ⟨Nat.zero_le _, fun L nL => ?_⟩
          have w3 := same_upd (o := .lst []) nL
          refine ⟨.list (([] : List Int).map .int), .list (([] : List Int).map .int), dp_ints (sql (w3 _ _ eM)), dp_ints (sql upd_same), lay_ints [], lay_ints [], ?_⟩
          rw [eqv_ints, decide_eq_true rfl]
          refine ⟨_, rfl, iteB0 (b := !true) rfl ?_⟩
          have sF := s8.trans w3
          exact ⟨rfl, x67.trans (LamX.ExtN.of sF), T7.ext sF⟩
      · have gs : s1.Good ∧ wy = "" := hwy.resolve_right hw
        refine iteB0 (by rw [decide_eq_true (congrArg V.str gs.2)]; rfl) ?_
        exact ⟨rfl, LamX.ExtN.refl _, hT⟩
    obtain ⟨rfl, x7, hT⟩ := g7
    have k7 := Kp.ext x7
    have hS1 := hS1.imm k7.imm
    have hS0 := hS0.imm k7.imm
    have hG := hG.imm k7.imm
    have R7 := R6.ext x7
    clear R6 x7 k7
    refine ⟨_, rfl, v, g, 0, rfl, hG, hO, by omega, by omega, fun H8 s8 => ?_⟩
    have hT := hT.ext s8
    have hS1 := hS1.imm (Imm.same s8)
    have hS0 := hS0.imm (Imm.same s8)
    have hG := hG.same s8
    have R8 := R7.same s8
    clear R7 s8
    generalize hbd : isG 0 g = bd
    obtain ⟨due, hdue⟩ : ∃ o : Out, o = (if bd = true then .fine else .gue) := ⟨_, rfl⟩
    refine ⟨hT, fun f1 c1 G1 x1 T1 n1 o1 k1 => ?_⟩
    have L1 := lam_runs_of (P := P) (w := w) (K := K) (mg := mg) (base := base) (N := N_law) (k := 13) o1 (lamN_by rfl) (fun _ _ _ _ => rfl) (fun A outer s H E f c' cl hr => ((pe_callS G_guesses (hr.mono (by first | decide | omega)) (by rfl) D_guesses.m D_guesses.F.kp D_guesses.b (fun σ => passAt (takes_of rfl rfl rfl rfl) σ) (pa_cons (pv 5) (pa_cons (pe_lst (pa_cons pe_int (pa_cons pe_int pa_nil))) pa_nil)))))
    refine ⟨sz_1, fun L nL => ?_⟩
    have nb : ∀ b o, H8 b = some o → (∀ ps, o ≠ .tbl ps) → b ≠ L := fun b o e n => ne_of_none (x1 b o e n) nL
    have w1 := same_upd (o := .lst [.ref f1]) nL
    have eL1 : (upd G1 L (.lst [.ref f1])) L = some (.lst [.ref f1]) := upd_same
    have o1 := w1 _ _ o1
    have k1 := w1 _ _ k1
    have T1 := T1.ext w1
    have x1 := x1.trans (LamX.ExtN.of w1)
    generalize upd G1 L (.lst [.ref f1]) = G1 at eL1 o1 k1 T1 x1 ⊢
    refine ⟨_, rfl, .inl ⟨rfl, _, sql eL1⟩, T1, fun f2 c2 G2 x2 T2 n2 o2 k2 => ?_⟩
    have L2 := lam_runs_of (P := P) (w := w) (K := K) (mg := mg) (base := base) (N := N_law) (k := 13) o2 (lamN_by rfl) (fun _ _ _ _ => rfl) (fun A outer s H E f c' cl hr => ((pe_callS G_written (hr.mono (by first | decide | omega)) (by rfl) D_written.m D_written.F.kp D_written.b (fun σ => passAt (takes_of rfl rfl rfl rfl) σ) (pa_cons (pv 5) pa_nil))))
    have eM : G2 L = some (.lst [.ref f1]) := x2 _ _ eL1 (fun ps z => by cases z)
    have o1 := x2 _ _ o1 (fun ps z => by unfold LamO at z; cases z)
    have k1 := x2 _ _ k1 LamX.codeO_ne
    refine ⟨L, _, _, rfl, rfl, eM, szl (by show 1 < 1000000; omega), ?_⟩
    have eL2 : (upd G2 L (.lst ([.ref f1] ++ [.ref f2]))) L = some (.lst ([.ref f1] ++ [.ref f2])) := upd_same
    have o1 := mut_keep (o := .lst ([.ref f1] ++ [.ref f2])) eM o1 lamO_lst
    have k1 := mut_keep (o := .lst ([.ref f1] ++ [.ref f2])) eM k1 codeO_lst
    have o2 := mut_keep (o := .lst ([.ref f1] ++ [.ref f2])) eM o2 lamO_lst
    have k2 := mut_keep (o := .lst ([.ref f1] ++ [.ref f2])) eM k2 codeO_lst
    have T2 := tabs_mut (o := .lst ([.ref f1] ++ [.ref f2])) T2 eM
    have y2' : LamX.ExtN H8 (upd G2 L (.lst ([.ref f1] ++ [.ref f2]))) := fun b o e n => by rw [upd_ne (nb b o e n)]; exact x2 _ _ (x1 b o e n) n
    generalize upd G2 L (.lst ([.ref f1] ++ [.ref f2])) = G3 at eL2 T2 y2' o1 k1 o2 k2 ⊢
    clear eM nb x2 x1 w1 eL1 n1 n2 nL T1
    have k8 := Kp.ext y2'
    have hS1 := hS1.imm k8.imm
    have hS0 := hS0.imm k8.imm
    have hG := hG.imm k8.imm
    have R9 := R8.ext y2'
    clear R8 y2' k8 hT
    refine ⟨fun σ' H' => ∃ (L : Addr) (ws : List V), σ' = [some (.ref a), some (.ref r), some (.int (0 + ((i : Nat) : Int))), some (.ref ga), some (.ref sa), some v, some (.str wy), some (.bl bd), some (.ref L), none] ∧ H' L = some (.lst (.ref f1 :: .ref f2 :: ws)) ∧ AllF P w K mg base ec due H' ws ∧ LamX.ExtN G3 H' ∧ LamX.Tabs TT H', ?_, fun σ7 H7 g7 => ?_⟩
    · refine ⟨_, rfl, _, rfl, ?_⟩
      cases bd with
      | true =>
        refine iteB0 (b := !true) rfl ?_
        exact ⟨L, [], rfl, eL2, (by intro y hy; cases hy), LamX.ExtN.refl _, T2⟩
      | false =>
        refine iteB (b := !false) rfl ?_
        refine ⟨_, rfl, _, rfl, _, rfl, Nat.zero_le _, fun p0 n0 => ?_⟩
        have w0 := same_upd (o := .tup []) n0
        generalize upd G3 p0 (.tup []) = A0 at w0 ⊢
        refine ⟨sz_1, fun l0 m0 => ?_⟩
        have w1 := same_upd (o := .lst [.ref p0]) m0
        generalize upd A0 l0 (.lst [.ref p0]) = A1 at w1 ⊢
        refine ⟨Nat.zero_le _, fun p1 n1 => ?_⟩
        have w2 := same_upd (o := .tup []) n1
        generalize upd A1 p1 (.tup []) = A2 at w2 ⊢
        have sA := (w0.trans w1).trans w2
        refine ⟨.ref ga, v, .ref l0, .ref p1, rfl, T2.ext sA, fun D g1 g2 g3 g4 g5 g6 H7 x7 T7 eD W1 W2 W3 W4 W5 W6 => ?_⟩
        have x67 := (LamX.ExtN.of sA).trans x7
        have k7 := Kp.ext x67
        have dueE : DueE s0 g .gue := .inr ⟨gS0, hbd, rfl⟩
        have C : Odd K H7 ga v s0 g := ⟨hS0.imm k7.imm, by omega, hG.imm k7.imm, wfG, dueE_no dueE⟩
        have all : AllF P w K mg base ec .gue H7 [.ref g1, .ref g2, .ref g3, .ref g4, .ref g5, .ref g6] := fun y hy => by
          simp only [List.mem_cons, List.not_mem_nil, or_false] at hy
          rcases hy with rfl | rfl | rfl | rfl | rfl | rfl
          · exact ⟨_, rfl, allE_fated W1 C dueE⟩
          · exact ⟨_, rfl, allE_fated W2 C dueE⟩
          · exact ⟨_, rfl, costE_fated W3 C dueE⟩
          · exact ⟨_, rfl, heldE_fated W4 C dueE⟩
          · exact ⟨_, rfl, worstE_fated W5 C dueE⟩
          · exact ⟨_, rfl, worstE2_fated W6 C dueE⟩
        have eL7 : H7 L = some (.lst [.ref f1, .ref f2]) := x67 _ _ eL2 (fun ps z => by cases z)
        refine ⟨L, D, _, _, rfl, rfl, eL7, eD, sz (by show 2 + 6 ≤ _; decide), fun L9 n9 => ?_⟩
        have w9 := same_upd (o := .lst ([.ref f1, .ref f2] ++ [.ref g1, .ref g2, .ref g3, .ref g4, .ref g5, .ref g6])) n9
        refine ⟨L9, [.ref g1, .ref g2, .ref g3, .ref g4, .ref g5, .ref g6], rfl, upd_same, ?_, x67.trans (LamX.ExtN.of w9), T7.ext w9⟩
        rw [hdue, if_neg Bool.false_ne_true]
        exact all.after w9
    clear eL2 T2
    obtain ⟨L3, ws, rfl, eL, allw, x9, hT⟩ := g7
    have o1 := x9 _ _ o1 (fun ps z => by unfold LamO at z; cases z)
    have k1 := x9 _ _ k1 LamX.codeO_ne
    have o2 := x9 _ _ o2 (fun ps z => by unfold LamO at z; cases z)
    have k2 := x9 _ _ k2 LamX.codeO_ne
    have k9 := Kp.ext x9
    have hS1 := hS1.imm k9.imm
    have hG := hG.imm k9.imm
    have R10 := R9.ext x9
    clear R9 k9 x9 hS0
    have gd3 : bd = true → good 3 g = true := fun z => good_isG g 3 (Nat.le_refl _) wfG (by rw [← z]; exact hbd)
    refine ⟨_, rfl, L3, rfl, ⟨_, sql eL⟩, fun M nM => ?_⟩
    refine lc_list (xs := .ref f1 :: .ref f2 :: ws) (fun j H' => Same H7 H' ∧ H' M = some (.lst [])) ⟨same_upd nM, upd_same⟩ (fun j H' _ h => sql (h.1 _ _ eL)) (fun j y H' hj h => ?_) (fun H' h => ?_)
    · obtain ⟨s8, eM⟩ := h
      refine ⟨rfl, _, rfl, fun H8 pf => ?_⟩
      have s78 := s8.trans pf.same
      obtain ⟨f0, rfl, ts, Rn, hts⟩ : ∃ f0, y = V.ref f0 ∧ Fated P w K mg base 14 ec due H8 f0 := by
        match j, hj with
        | 0, hj =>
          cases Option.some.inj hj
          have wk := work_at (pre := fun H Q E => ∀ l H1, Same H H1 → H1 l = some (.lst [.int 1, .int 2]) → (spGuesE K ec [v, .ref l] H1 Q E ∨ ∀ E', spGuesses K [v, .ref l] H1 Q E')) L1 (s78 _ _ o1) (s78 _ _ k1) (pf.lam (LamX.lamS_by (by rfl))) fun H Q E h => ⟨_, rfl, sz_2, fun l nl => h l _ (same_upd nl) upd_same⟩
          refine ⟨f1, rfl, wk.fated fun H e Q E f l H1 s1 el => ?_⟩
          have hG1 := ((hG.same s78).imm e.imm).same s1
          cases bd with
          | true =>
            rw [hdue, if_pos rfl] at f
            exact .inr fun E' => ⟨v, g, l, [1, 2], rfl, hG1, gd3 rfl, sql el, by decide, fun l' as H' s' _ _ _ => f _ _ (s1.trans s')⟩
          | false =>
            rw [hdue, if_neg Bool.false_ne_true] at f
            exact .inl ⟨v, .ref l, g, rfl, hG1, wfG, hbd, f.after s1⟩
        | 1, hj =>
          cases Option.some.inj hj
          have wk := work_at (pre := fun H Q E => (spWritE K ec [v] H Q E ∨ ∀ E', spWritten K [v] H Q E')) L2 (s78 _ _ o2) (s78 _ _ k2) (pf.lam (LamX.lamS_by (by rfl))) fun H Q E h => ⟨_, rfl, h⟩
          refine ⟨f2, rfl, wk.fated fun H e Q E f => ?_⟩
          have hG1 := (hG.same s78).imm e.imm
          cases bd with
          | true =>
            rw [hdue, if_pos rfl] at f
            exact .inr fun E' => ⟨v, g, rfl, hG1, gd3 rfl, fun H' s' => f _ _ s'⟩
          | false =>
            rw [hdue, if_neg Bool.false_ne_true] at f
            exact .inl ⟨v, g, rfl, hG1, wfG, hbd, f⟩
        | j + 2, hj =>
          obtain ⟨f0, e, fd⟩ := allw y (List.mem_of_getElem? (i := j) hj)
          exact ⟨f0, e, fd.after s78⟩
      refine ⟨f0, ts, due, rfl, Rn, hts _ (Same.refl _), fun p9 H9 s9 np9 ep9 => ?_⟩
      obtain ⟨pa1, pa2⟩ := pub_after pf s9
      have ep := pa2 _ _ ep9
      clear pa2
      generalize hide _ H9 = Z0 at pa1 ep ⊢
      refine ⟨sz_2, fun q1 m1 => ?_⟩
      have w1 := same_upd (o := .tup [.str "guesser", .non]) m1
      have e1 : SqT K (upd Z0 q1 (.tup [.str "guesser", .non])) q1 (outT .gue) := sqt upd_same
      have pa3 := pa1.trans w1
      have ep := w1 _ _ ep
      generalize upd Z0 q1 (.tup [.str "guesser", .non]) = Z1 at e1 pa3 ep ⊢
      refine ⟨sz_2, fun q2 m2 => ?_⟩
      have w2 := same_upd (o := .tup [.str "", .non]) m2
      have e2 : SqT K (upd Z1 q2 (.tup [.str "", .non])) q2 (outT .fine) := sqt upd_same
      have e1 := same_t w2 e1
      have pa4 := pa3.trans w2
      have ep := w2 _ _ ep
      generalize upd Z1 q2 (.tup [.str "", .non]) = Z2 at e1 e2 pa4 ep ⊢
      refine ⟨sz_2, fun q3 m3 => ?_⟩
      have w3 := same_upd (o := .lst [.ref q1, .ref q2]) m3
      have e3 : (upd Z2 q3 (.lst [.ref q1, .ref q2])) q3 = some (.lst [.ref q1, .ref q2]) := upd_same
      have e1 := same_t w3 e1
      have e2 := same_t w3 e2
      have pa5 := pa4.trans w3
      have ep := w3 _ _ ep
      generalize upd Z2 q3 (.lst [.ref q1, .ref q2]) = Z3 at e1 e2 e3 pa5 ep ⊢
      refine ⟨_, rfl, .inr ⟨_, rfl, ?_⟩⟩
      have eM5 := pa5 _ _ eM
      have s85 := s8.trans pa5
      cases bd with
      | true =>
        rw [hdue, if_pos rfl] at ep
        exact ⟨_, _, _, _, rfl, rfl, sql e3, atI_nat (j := 1) rfl, ne_out (o := .fine) (sqt ep) e2 (shp_out (by intro _ z; cases z)) ⟨_, rfl, iteB0 rfl ⟨s85, eM5⟩⟩⟩
      | false =>
        rw [hdue, if_neg Bool.false_ne_true] at ep
        exact ⟨_, _, _, _, rfl, rfl, sql e3, atI_nat (j := 0) rfl, ne_out (o := .gue) (sqt ep) e1 (shp_out (by intro _ z; cases z)) ⟨_, rfl, iteB0 rfl ⟨s85, eM5⟩⟩⟩
    · obtain ⟨s8, eM⟩ := h
      refine ⟨Nat.zero_le _, fun L nL => ?_⟩
      have w3 := same_upd (o := .lst []) nL
      refine ⟨.list (([] : List Int).map .int), .list (([] : List Int).map .int), dp_ints (sql (w3 _ _ eM)), dp_ints (sql upd_same), lay_ints [], lay_ints [], ?_⟩
      rw [eqv_ints, decide_eq_true rfl]
      refine ⟨_, rfl, iteB0 (b := !true) rfl ?_⟩
      have sF := s8.trans w3
      have hT := hT.ext sF
      have hS1 := hS1.imm (Imm.same sF)
      have hG := hG.same sF
      have R11 := R10.same sF
      clear w3 eM s8 nM eL allw
      refine ⟨_, rfl, rfl, _, rfl, ?_⟩
      by_cases we : wy = ""
      · refine iteB (decide_eq_true (congrArg V.str we)) ?_
        have gS1 : s1.Good := by
          rcases hwy with ⟨gs, _⟩ | hw
          · exact gs
          · exact absurd we (why_words hw).1
        refine ⟨_, rfl, _, rfl, ?_⟩
        cases bd with
        | false =>
          refine iteB0 rfl ?_
          exact ⟨_, _, _, _, _, _, _, rfl, R11, hT⟩
        | true =>
          refine iteB rfl ?_
          refine ⟨hT, fun f4 c4 G4 x4 T4 n4 o4 k4 => ?_⟩
          have L4 := lam_runs_of (P := P) (w := w) (K := K) (mg := mg) (base := base) (N := N_law) (k := 13) o4 (lamN_by rfl) (fun _ _ _ _ => rfl) (fun A outer s H E f c' cl hr => ((pe_callS G_run (hr.mono (by first | decide | omega)) (by rfl) D_run.m D_run.F.kp D_run.b (fun σ => passAt (takes_of rfl rfl rfl rfl) σ) (pa_cons (pv 4) (pa_cons (pv 5) (pa_cons (pe_lst pa_nil) pa_nil))))))
          intro G5 pf
          have s5 := pf.same
          have wk := work_at (pre := fun H Q E => ∀ l H1, Same H H1 → H1 l = some (.lst []) → spRunX K ec.B [.ref sa, v, .ref l] H1 Q E) L4 (s5 _ _ o4) (s5 _ _ k4) (pf.lam (LamX.lamS_by (by rfl))) fun H Q E h => ⟨_, rfl, _, rfl, Nat.zero_le _, fun l nl => h l _ (same_upd nl) upd_same⟩
          have k45 := (Kp.ext x4).trans (Kp.same s5)
          obtain ⟨ts, Rn, hts⟩ := wk.fated (c := ec) (o := .fine) fun H e Q E f l H1 s1' el => by
            have kk := (k45.trans e).trans (Kp.same s1')
            exact ⟨sa, l, v, s1, g, [], [], rfl, hS1.imm kk.imm, gS1, hG.imm kk.imm, gd3 rfl, ⟨sql el, .nil, (by intro o ho; cases ho), by decide⟩, fun _ u H' s' => f u H' (s1'.trans s'), fun i fb => absurd fb.1 (Nat.not_lt_zero _)⟩
          refine ⟨f4, ts, .fine, rfl, Rn, hts _ (Same.refl _), fun p9 H9 s9 np9 ep9 => ?_⟩
          obtain ⟨pa1, pa2⟩ := pub_after pf s9
          have ep := pa2 _ _ ep9
          refine ⟨sz_2, fun p10 n10 => ne_out (o := .fine) (same_t (same_upd n10) (sqt ep)) (sqt upd_same) (shp_out (by intro _ z; cases z)) ⟨_, rfl, iteB0 rfl ?_⟩⟩
          have sF2 := pa1.trans (same_upd (o := .tup [.str "", .non]) n10)
          exact ⟨_, _, _, _, _, _, _, rfl, (R11.ext x4).same sF2, T4.ext sF2⟩
      · refine iteB0 (decide_eq_false fun z => we (V.str.inj z)) ?_
        exact ⟨_, _, _, _, _, _, _, rfl, R11, hT⟩
  · obtain ⟨y2, y3, y4, y5, y6, y7, y8, rfl, _⟩ := h
    exact q _
end
end St

namespace St
open PySem PySem.Spec PyProof.Rows L2
section
variable {P : Program} {w : World} {K : PySem.W.Frag} {mg : Str → Option Value} {base : Heap} {C CR CT CW f f1 f2 f3 f4 f5 f6 f7 f8 fT fS fO fP fY fI fW fX cW cL pW pL : Addr} {fd fd1 fd2 fd3 fd4 fd5 fd6 fd7 fd8 fdT fdS fdO fdP fdY fdI fdW fdX : FuncData} {TT : List (Addr × Str)} {ec : EC}
theorem ok_all (N : NeedCo K w mg) (S : RunCo K mg C CR) (O : CostCo K mg CR) (WO : WorstCo K w mg C) (hM : ∃ t, mg "MOST_GUESSERS" = some (.int 8 t)) (Er : ErrSG K mg ec CW) (ErX : ErrCo K mg ec.A ec.B CW) (k5 : Kin5 K mg ec CT CW)
    (D_run : Df K mg "run" s_run p_run f1 fd1) (D_story : Df K mg "story" s_story p_story f2 fd2) (D_cost : Df K mg "cost" s_cost p_cost f3 fd3) (D_held : Df K mg "held" s_held p_held f4 fd4) (D_worst : Df K mg "worst" s_worst p_worst f5 fd5)
    (D_guesses : Df K mg "guesses" s_guesses p_guesses f6 fd6) (D_written : Df K mg "written" s_written p_written f7 fd7) (D_words_of : Df K mg "words_of" s_words_of p_words_of f8 fd8)
    (D__law_taken : Df K mg "_law_taken" s__law_taken p__law_taken fT fdT) (D__law_setting : Df K mg "_law_setting" s__law_setting p__law_setting fS fdS) (D__law_odd_guesser : Df K mg "_law_odd_guesser" s__law_odd_guesser p__law_odd_guesser fO fdO)
    (D__law_spoilt : Df K mg "_law_spoilt" s__law_spoilt p__law_spoilt fP fdP) (D__law_why : Df K mg "_law_why" s__law_why p__law_why fY fdY) (D__law_is_guesser : Df K mg "_law_is_guesser" s__law_is_guesser p__law_is_guesser fI fdI)
    (D__law_works : Df K mg "_law_works" s__law_works p__law_works fW fdW) (D__law_word : Df K mg "_law_word" s__law_word p__law_word fX fdX)
    (FW : FunC K "_law_works" "_law_works" s__law_works fW cW fdW) (TW : LamX.TabB base mg cW pW) (TL : LamX.TabB base mg cL pL)
    (mW : (pW, ("_law_works.<locals>." : Str) ++ "<lambda>") ∈ TT) (mL : (pL, ("law.<locals>." : Str) ++ "<lambda>") ∈ TT)
    (uW : ∀ q ∈ TT, q.1 = pW → q.2 = ("_law_works.<locals>." : Str) ++ "<lambda>") (uL : ∀ q ∈ TT, q.1 = pL → q.2 = ("law.<locals>." : Str) ++ "<lambda>")
    (F : FunC K "law" "law" s_law f cL fd) : FnOk P w K mg base CX0 16 f fd p_law (spLawQ K TT) := by
  have T := S.T
  have NC : NeedC K w mg := ⟨N.T, N.B, N.Cn, N.D_is_guesser, N.D_need_guesser, N.D_need_setting, N.D_is_deed, N.D_need_row⟩
  have E_run : FnOk P w K mg base (L2.CX P w) 12 f1 fd1 p_run (spAllE K ec) := okE_run N S O Er D_run.F
  have G_run : FnOk P w K mg base (L2.CX P w) 12 f1 fd1 p_run (spRunX K ec.B) := okX_run N S ErX O.D_Run_count O.D_Run_counts O.D_idle_in D_run.F
  have E_story : FnOk P w K mg base (L2.CX P w) 12 f2 fd2 p_story (spAllE K ec) := okE_story N S Er D_story.F
  have E_cost : FnOk P w K mg base (L2.CX P w) 12 f3 fd3 p_cost (spCostE K ec) := okE_cost NC S O Er D_cost.F
  have E_held : FnOk P w K mg base (L2.CX P w) 12 f4 fd4 p_held (spHeldE K ec) := okE_held NC S O hM Er D_held.F
  have E_worst : FnOk P w K mg base (L2.CX P w) 10 f5 fd5 p_worst (spWorstE K ec) := okE_worst WO Er D_worst.F
  have G_guesses : FnOk P w K mg base (L2.CX P w) 8 f6 fd6 p_guesses (fun vs H Q E => spGuesE K ec vs H Q E ∨ ∀ E, spGuesses K vs H Q E) :=
    fn_or (okE_guesses T N.B Er N.D_is_guesser N.D_need_guesser S.D_first_state S.D_stepped D_guesses.F) (fn_up (fn_lift (ok_guesses T N.B N.D_is_guesser N.D_need_guesser S.D_first_state S.D_strided S.D_paired S.D_stepped D_guesses.F)) (by decide))
  have G_written : FnOk P w K mg base (L2.CX P w) 8 f7 fd7 p_written (fun vs H Q E => spWritE K ec vs H Q E ∨ ∀ E, spWritten K vs H Q E) :=
    fn_or (okE_written T N.B Er N.D_is_guesser N.D_need_guesser D_words_of D_written.F) (fn_up (fn_lift (ok_written T N.B N.D_is_guesser N.D_need_guesser D_words_of D_written.F)) (by decide))
  have G_works := ok__law_wk1 T TW mW uW D_run E_run D_story E_story D_cost E_cost D_held E_held D_worst E_worst FW
  have G_word : FnOk P w K mg base CX0 15 fX fdX p__law_word (spWord P w K mg base 14 ec) := ok__law_word T k5 D__law_word.F
  exact fn_thaw (ok_law T D__law_taken D__law_setting D__law_odd_guesser D__law_spoilt D__law_why D__law_is_guesser D__law_works G_works D__law_word G_word D_guesses G_guesses D_written G_written D_run G_run TL mL uL F)
end
end St

namespace St
open PySem PySem.Spec PyProof.Rows L2
theorem all_mk {l : PySem.W.OpenLaw} {w : World} {K : PySem.W.Frag} {h : Heap} {mg : Str → Option Value} {fa f0 f1 f2 f3 f4 f5 f6 f7 f8 f9 f10 f11 f12 f13 f14 f15 f16 f17 f18 f19 f20 f21 f22 f23 f24 f25 f26 f27 f28 f29 f30 f31 f32 f33 f34 f35 f36 f37 f38 d0 d1 : Addr} (X : K.In h) (G : h.Ns mainGlobals mg) (hfa : mg "law" = some (.ref fa))
    {od0 an0 od1 an1 od2 an2 od3 an3 od4 an4 od5 an5 od6 an6 od7 an7 od8 an8 od9 an9 od10 an10 od11 an11 od12 an12 od13 an13 od14 an14 od15 an15 od16 an16 od17 an17 od18 an18 od19 an19 od20 an20 od21 an21 od22 an22 od23 an23 od24 an24 od25 an25 od26 an26 od27 an27 od28 an28 od29 an29 od30 an30 od31 an31 od32 an32 od33 an33 od34 an34 od35 an35 od36 an36 od37 an37 od38 an38 : Option Addr} {sl0 sl1 sl2 sl3 sl4 sl5 sl6 sl7 sl8 sl9 sl10 sl11 sl12 sl13 sl14 sl15 sl16 sl17 sl18 sl19 sl20 sl21 sl22 sl23 sl24 sl25 sl26 sl27 sl28 sl29 sl30 sl31 sl32 sl33 sl34 sl35 sl36 sl37 sl38 : Array (Option Value)} {oc0 kV0 dc0 pm0 cd0 ct0 oc1 kV1 dc1 pm1 cd1 ct1 oc2 kV2 dc2 pm2 cd2 ct2 oc3 kV3 dc3 pm3 cd3 ct3 oc4 kV4 dc4 pm4 cd4 ct4 oc5 kV5 dc5 pm5 cd5 ct5 oc6 kV6 dc6 pm6 cd6 ct6 oc7 kV7 dc7 pm7 cd7 ct7 oc8 kV8 dc8 pm8 cd8 ct8 oc9 kV9 dc9 pm9 cd9 ct9 oc10 kV10 dc10 pm10 cd10 ct10 oc11 kV11 dc11 pm11 cd11 ct11 oc12 kV12 dc12 pm12 cd12 ct12 oc13 kV13 dc13 pm13 cd13 ct13 oc14 kV14 dc14 pm14 cd14 ct14 oc15 kV15 dc15 pm15 cd15 ct15 oc16 kV16 dc16 pm16 cd16 ct16 oc17 kV17 dc17 pm17 cd17 ct17 oc18 kV18 dc18 pm18 cd18 ct18 oc19 kV19 dc19 pm19 cd19 ct19 oc20 kV20 dc20 pm20 cd20 ct20 oc21 kV21 dc21 pm21 cd21 ct21 oc22 kV22 dc22 pm22 cd22 ct22 oc23 kV23 dc23 pm23 cd23 ct23 oc24 kV24 dc24 pm24 cd24 ct24 oc25 kV25 dc25 pm25 cd25 ct25 oc26 kV26 dc26 pm26 cd26 ct26 oc27 kV27 dc27 pm27 cd27 ct27 oc28 kV28 dc28 pm28 cd28 ct28 oc29 kV29 dc29 pm29 cd29 ct29 oc30 kV30 dc30 pm30 cd30 ct30 oc31 kV31 dc31 pm31 cd31 ct31 oc32 kV32 dc32 pm32 cd32 ct32 oc33 kV33 dc33 pm33 cd33 ct33 oc34 kV34 dc34 pm34 cd34 ct34 oc35 kV35 dc35 pm35 cd35 ct35 oc36 kV36 dc36 pm36 cd36 ct36 oc37 kV37 dc37 pm37  ct37 oc38 kV38 dc38 pm38  ct38 : Value} {es0 es1 : Array DictEntry} {en0 en1 : Nat} {ti0 ti1 ti2 ti3 ti4 ti5 ti6 ti7 ti8 ti9 ti10 ti11 : Tok}
    {C0 C1 fm0 fm1 fm2 fm3 fm4 : Addr} {odm0 anm0 odm1 anm1 odm2 anm2 odm3 anm3 odm4 anm4 : Option Addr} {slm0 slm1 slm2 slm3 slm4 : Array (Option Value)} {ocm0 kVm0 dcm0 pmm0 cdm0 ctm0 ocm1 kVm1 dcm1 pmm1 cdm1 ctm1 ocm2 kVm2 dcm2 pmm2 cdm2 ctm2 ocm3 kVm3 dcm3 pmm3 cdm3 ctm3 ocm4 kVm4 dcm4 pmm4 cdm4 ctm4 : Value}
    {E0 E1 E2 E3 E4 E5 fE3 fE4 fE5 : Addr}
    {nmE3 qE3 : Str} {NE3 : Addr} {bsE3 bmE3 : List Value} {snE3 : List Str} {suE3 : List Value} {abE3 : Bool} {coE3 : Option Bool} {ddE3 : Option Addr} {m0E3 m1E3 m2E3 m3E3 m5E3 : Option Value} {odE3 anE3 : Option Addr} {slE3 : Array (Option Value)} {ocE3 kVE3 dcE3 pmE3 cdE3 ctE3 : Value}
    {nmE4 qE4 : Str} {NE4 : Addr} {bsE4 bmE4 : List Value} {snE4 : List Str} {suE4 : List Value} {abE4 : Bool} {coE4 : Option Bool} {ddE4 : Option Addr} {m0E4 m1E4 m2E4 m3E4 m5E4 : Option Value} {odE4 anE4 : Option Addr} {slE4 : Array (Option Value)} {ocE4 kVE4 dcE4 pmE4 cdE4 ctE4 : Value}
    {nmE5 qE5 : Str} {NE5 : Addr} {bsE5 bmE5 : List Value} {snE5 : List Str} {suE5 : List Value} {abE5 : Bool} {coE5 : Option Bool} {ddE5 : Option Addr} {m0E5 m1E5 m2E5 m3E5 m5E5 : Option Value} {odE5 anE5 : Option Addr} {slE5 : Array (Option Value)} {ocE5 kVE5 dcE5 pmE5 cdE5 ctE5 : Value}
    {cc37 Pc37 cc38 Pc38 : Addr} {occ37 occ38 : Value} {odcc37 odcc38 : Option Addr} {vcc37 vcc38 : Array Value} {slcc37 slcc38 : Array (Option Value)}
    (a0 : PySem.W.nsIn K mainGlobals "laid" = some (some (.ref f0))) (l0 : K.lookup f0 = some ⟨oc0, od0, .func (PySem.W.fnOf "laid" "laid" (defArgs s_laid) (defBody s_laid) (defScope s_laid) .none kV0 dc0 pm0 an0 cd0 ct0), sl0⟩) (c0 : PySem.W.codeIn K cd0 "laid" = true) (k0 : PySem.W.keepIn K (.ref f0) = true)
    (a1 : PySem.W.nsIn K mainGlobals "come" = some (some (.ref f1))) (l1 : K.lookup f1 = some ⟨oc1, od1, .func (PySem.W.fnOf "come" "come" (defArgs s_come) (defBody s_come) (defScope s_come) .none kV1 dc1 pm1 an1 cd1 ct1), sl1⟩) (c1 : PySem.W.codeIn K cd1 "come" = true) (k1 : PySem.W.keepIn K (.ref f1) = true)
    (a2 : PySem.W.nsIn K mainGlobals "asked" = some (some (.ref f2))) (l2 : K.lookup f2 = some ⟨oc2, od2, .func (PySem.W.fnOf "asked" "asked" (defArgs s_asked) (defBody s_asked) (defScope s_asked) .none kV2 dc2 pm2 an2 cd2 ct2), sl2⟩) (c2 : PySem.W.codeIn K cd2 "asked" = true) (k2 : PySem.W.keepIn K (.ref f2) = true)
    (a3 : PySem.W.nsIn K mainGlobals "started" = some (some (.ref f3))) (l3 : K.lookup f3 = some ⟨oc3, od3, .func (PySem.W.fnOf "started" "started" (defArgs s_started) (defBody s_started) (defScope s_started) .none kV3 dc3 pm3 an3 cd3 ct3), sl3⟩) (c3 : PySem.W.codeIn K cd3 "started" = true) (k3 : PySem.W.keepIn K (.ref f3) = true)
    (a4 : PySem.W.nsIn K mainGlobals "strided" = some (some (.ref f4))) (l4 : K.lookup f4 = some ⟨oc4, od4, .func (PySem.W.fnOf "strided" "strided" (defArgs s_strided) (defBody s_strided) (defScope s_strided) .none kV4 dc4 pm4 an4 cd4 ct4), sl4⟩) (c4 : PySem.W.codeIn K cd4 "strided" = true) (k4 : PySem.W.keepIn K (.ref f4) = true)
    (a5 : PySem.W.nsIn K mainGlobals "paired" = some (some (.ref f5))) (l5 : K.lookup f5 = some ⟨oc5, od5, .func (PySem.W.fnOf "paired" "paired" (defArgs s_paired) (defBody s_paired) (defScope s_paired) .none kV5 dc5 pm5 an5 cd5 ct5), sl5⟩) (c5 : PySem.W.codeIn K cd5 "paired" = true) (k5 : PySem.W.keepIn K (.ref f5) = true)
    (a6 : PySem.W.nsIn K mainGlobals "stepped" = some (some (.ref f6))) (l6 : K.lookup f6 = some ⟨oc6, od6, .func (PySem.W.fnOf "stepped" "stepped" (defArgs s_stepped) (defBody s_stepped) (defScope s_stepped) .none kV6 dc6 pm6 an6 cd6 ct6), sl6⟩) (c6 : PySem.W.codeIn K cd6 "stepped" = true) (k6 : PySem.W.keepIn K (.ref f6) = true)
    (a7 : PySem.W.nsIn K mainGlobals "gone_on" = some (some (.ref f7))) (l7 : K.lookup f7 = some ⟨oc7, od7, .func (PySem.W.fnOf "gone_on" "gone_on" (defArgs s_gone_on) (defBody s_gone_on) (defScope s_gone_on) .none kV7 dc7 pm7 an7 cd7 ct7), sl7⟩) (c7 : PySem.W.codeIn K cd7 "gone_on" = true) (k7 : PySem.W.keepIn K (.ref f7) = true)
    (a8 : PySem.W.nsIn K mainGlobals "first_state" = some (some (.ref f8))) (l8 : K.lookup f8 = some ⟨oc8, od8, .func (PySem.W.fnOf "first_state" "first_state" (defArgs s_first_state) (defBody s_first_state) (defScope s_first_state) .none kV8 dc8 pm8 an8 cd8 ct8), sl8⟩) (c8 : PySem.W.codeIn K cd8 "first_state" = true) (k8 : PySem.W.keepIn K (.ref f8) = true)
    (a9 : PySem.W.nsIn K mainGlobals "begun" = some (some (.ref f9))) (l9 : K.lookup f9 = some ⟨oc9, od9, .func (PySem.W.fnOf "begun" "begun" (defArgs s_begun) (defBody s_begun) (defScope s_begun) .none kV9 dc9 pm9 an9 cd9 ct9), sl9⟩) (c9 : PySem.W.codeIn K cd9 "begun" = true) (k9 : PySem.W.keepIn K (.ref f9) = true)
    (a10 : PySem.W.nsIn K mainGlobals "is_guesser" = some (some (.ref f10))) (l10 : K.lookup f10 = some ⟨oc10, od10, .func (PySem.W.fnOf "is_guesser" "is_guesser" (defArgs s_is_guesser) (defBody s_is_guesser) (defScope s_is_guesser) .none kV10 dc10 pm10 an10 cd10 ct10), sl10⟩) (c10 : PySem.W.codeIn K cd10 "is_guesser" = true) (k10 : PySem.W.keepIn K (.ref f10) = true)
    (a11 : PySem.W.nsIn K mainGlobals "need_guesser" = some (some (.ref f11))) (l11 : K.lookup f11 = some ⟨oc11, od11, .func (PySem.W.fnOf "need_guesser" "need_guesser" (defArgs s_need_guesser) (defBody s_need_guesser) (defScope s_need_guesser) .none kV11 dc11 pm11 an11 cd11 ct11), sl11⟩) (c11 : PySem.W.codeIn K cd11 "need_guesser" = true) (k11 : PySem.W.keepIn K (.ref f11) = true)
    (a12 : PySem.W.nsIn K mainGlobals "need_setting" = some (some (.ref f12))) (l12 : K.lookup f12 = some ⟨oc12, od12, .func (PySem.W.fnOf "need_setting" "need_setting" (defArgs s_need_setting) (defBody s_need_setting) (defScope s_need_setting) .none kV12 dc12 pm12 an12 cd12 ct12), sl12⟩) (c12 : PySem.W.codeIn K cd12 "need_setting" = true) (k12 : PySem.W.keepIn K (.ref f12) = true)
    (a13 : PySem.W.nsIn K mainGlobals "is_deed" = some (some (.ref f13))) (l13 : K.lookup f13 = some ⟨oc13, od13, .func (PySem.W.fnOf "is_deed" "is_deed" (defArgs s_is_deed) (defBody s_is_deed) (defScope s_is_deed) .none kV13 dc13 pm13 an13 cd13 ct13), sl13⟩) (c13 : PySem.W.codeIn K cd13 "is_deed" = true) (k13 : PySem.W.keepIn K (.ref f13) = true)
    (a14 : PySem.W.nsIn K mainGlobals "need_row" = some (some (.ref f14))) (l14 : K.lookup f14 = some ⟨oc14, od14, .func (PySem.W.fnOf "need_row" "need_row" (defArgs s_need_row) (defBody s_need_row) (defScope s_need_row) .none kV14 dc14 pm14 an14 cd14 ct14), sl14⟩) (c14 : PySem.W.codeIn K cd14 "need_row" = true) (k14 : PySem.W.keepIn K (.ref f14) = true)
    (a15 : PySem.W.nsIn K mainGlobals "need_all" = some (some (.ref f15))) (l15 : K.lookup f15 = some ⟨oc15, od15, .func (PySem.W.fnOf "need_all" "need_all" (defArgs s_need_all) (defBody s_need_all) (defScope s_need_all) .none kV15 dc15 pm15 an15 cd15 ct15), sl15⟩) (c15 : PySem.W.codeIn K cd15 "need_all" = true) (k15 : PySem.W.keepIn K (.ref f15) = true)
    (a16 : PySem.W.nsIn K mainGlobals "idle_in" = some (some (.ref f16))) (l16 : K.lookup f16 = some ⟨oc16, od16, .func (PySem.W.fnOf "idle_in" "idle_in" (defArgs s_idle_in) (defBody s_idle_in) (defScope s_idle_in) .none kV16 dc16 pm16 an16 cd16 ct16), sl16⟩) (c16 : PySem.W.codeIn K cd16 "idle_in" = true) (k16 : PySem.W.keepIn K (.ref f16) = true)
    (a17 : PySem.W.nsIn K mainGlobals "need_weights" = some (some (.ref f17))) (l17 : K.lookup f17 = some ⟨oc17, od17, .func (PySem.W.fnOf "need_weights" "need_weights" (defArgs s_need_weights) (defBody s_need_weights) (defScope s_need_weights) .none kV17 dc17 pm17 an17 cd17 ct17), sl17⟩) (c17 : PySem.W.codeIn K cd17 "need_weights" = true) (k17 : PySem.W.keepIn K (.ref f17) = true)
    (a18 : PySem.W.nsIn K mainGlobals "weighed" = some (some (.ref f18))) (l18 : K.lookup f18 = some ⟨oc18, od18, .func (PySem.W.fnOf "weighed" "weighed" (defArgs s_weighed) (defBody s_weighed) (defScope s_weighed) .none kV18 dc18 pm18 an18 cd18 ct18), sl18⟩) (c18 : PySem.W.codeIn K cd18 "weighed" = true) (k18 : PySem.W.keepIn K (.ref f18) = true)
    (a19 : PySem.W.nsIn K mainGlobals "need_rows" = some (some (.ref f19))) (l19 : K.lookup f19 = some ⟨oc19, od19, .func (PySem.W.fnOf "need_rows" "need_rows" (defArgs s_need_rows) (defBody s_need_rows) (defScope s_need_rows) .none kV19 dc19 pm19 an19 cd19 ct19), sl19⟩) (c19 : PySem.W.codeIn K cd19 "need_rows" = true) (k19 : PySem.W.keepIn K (.ref f19) = true)
    (a20 : PySem.W.nsIn K mainGlobals "turn_cost" = some (some (.ref f20))) (l20 : K.lookup f20 = some ⟨oc20, od20, .func (PySem.W.fnOf "turn_cost" "turn_cost" (defArgs s_turn_cost) (defBody s_turn_cost) (defScope s_turn_cost) .none kV20 dc20 pm20 an20 cd20 ct20), sl20⟩) (c20 : PySem.W.codeIn K cd20 "turn_cost" = true) (k20 : PySem.W.keepIn K (.ref f20) = true)
    (a21 : PySem.W.nsIn K mainGlobals "both_behind" = some (some (.ref f21))) (l21 : K.lookup f21 = some ⟨oc21, od21, .func (PySem.W.fnOf "both_behind" "both_behind" (defArgs s_both_behind) (defBody s_both_behind) (defScope s_both_behind) .none kV21 dc21 pm21 an21 cd21 ct21), sl21⟩) (c21 : PySem.W.codeIn K cd21 "both_behind" = true) (k21 : PySem.W.keepIn K (.ref f21) = true)
    (a22 : PySem.W.nsIn K mainGlobals "run" = some (some (.ref f22))) (l22 : K.lookup f22 = some ⟨oc22, od22, .func (PySem.W.fnOf "run" "run" (defArgs s_run) (defBody s_run) (defScope s_run) .none kV22 dc22 pm22 an22 cd22 ct22), sl22⟩) (c22 : PySem.W.codeIn K cd22 "run" = true) (k22 : PySem.W.keepIn K (.ref f22) = true)
    (a23 : PySem.W.nsIn K mainGlobals "story" = some (some (.ref f23))) (l23 : K.lookup f23 = some ⟨oc23, od23, .func (PySem.W.fnOf "story" "story" (defArgs s_story) (defBody s_story) (defScope s_story) .none kV23 dc23 pm23 an23 cd23 ct23), sl23⟩) (c23 : PySem.W.codeIn K cd23 "story" = true) (k23 : PySem.W.keepIn K (.ref f23) = true)
    (a24 : PySem.W.nsIn K mainGlobals "cost" = some (some (.ref f24))) (l24 : K.lookup f24 = some ⟨oc24, od24, .func (PySem.W.fnOf "cost" "cost" (defArgs s_cost) (defBody s_cost) (defScope s_cost) .none kV24 dc24 pm24 an24 cd24 ct24), sl24⟩) (c24 : PySem.W.codeIn K cd24 "cost" = true) (k24 : PySem.W.keepIn K (.ref f24) = true)
    (a25 : PySem.W.nsIn K mainGlobals "held" = some (some (.ref f25))) (l25 : K.lookup f25 = some ⟨oc25, od25, .func (PySem.W.fnOf "held" "held" (defArgs s_held) (defBody s_held) (defScope s_held) .none kV25 dc25 pm25 an25 cd25 ct25), sl25⟩) (c25 : PySem.W.codeIn K cd25 "held" = true) (k25 : PySem.W.keepIn K (.ref f25) = true)
    (a26 : PySem.W.nsIn K mainGlobals "worst" = some (some (.ref f26))) (l26 : K.lookup f26 = some ⟨oc26, od26, .func (PySem.W.fnOf "worst" "worst" (defArgs s_worst) (defBody s_worst) (defScope s_worst) .none kV26 dc26 pm26 an26 cd26 ct26), sl26⟩) (c26 : PySem.W.codeIn K cd26 "worst" = true) (k26 : PySem.W.keepIn K (.ref f26) = true)
    (a27 : PySem.W.nsIn K mainGlobals "guesses" = some (some (.ref f27))) (l27 : K.lookup f27 = some ⟨oc27, od27, .func (PySem.W.fnOf "guesses" "guesses" (defArgs s_guesses) (defBody s_guesses) (defScope s_guesses) .none kV27 dc27 pm27 an27 cd27 ct27), sl27⟩) (c27 : PySem.W.codeIn K cd27 "guesses" = true) (k27 : PySem.W.keepIn K (.ref f27) = true)
    (a28 : PySem.W.nsIn K mainGlobals "written" = some (some (.ref f28))) (l28 : K.lookup f28 = some ⟨oc28, od28, .func (PySem.W.fnOf "written" "written" (defArgs s_written) (defBody s_written) (defScope s_written) .none kV28 dc28 pm28 an28 cd28 ct28), sl28⟩) (c28 : PySem.W.codeIn K cd28 "written" = true) (k28 : PySem.W.keepIn K (.ref f28) = true)
    (a29 : PySem.W.nsIn K mainGlobals "words_of" = some (some (.ref f29))) (l29 : K.lookup f29 = some ⟨oc29, od29, .func (PySem.W.fnOf "words_of" "words_of" (defArgs s_words_of) (defBody s_words_of) (defScope s_words_of) .none kV29 dc29 pm29 an29 cd29 ct29), sl29⟩) (c29 : PySem.W.codeIn K cd29 "words_of" = true) (k29 : PySem.W.keepIn K (.ref f29) = true)
    (a30 : PySem.W.nsIn K mainGlobals "_law_taken" = some (some (.ref f30))) (l30 : K.lookup f30 = some ⟨oc30, od30, .func (PySem.W.fnOf "_law_taken" "_law_taken" (defArgs s__law_taken) (defBody s__law_taken) (defScope s__law_taken) .none kV30 dc30 pm30 an30 cd30 ct30), sl30⟩) (c30 : PySem.W.codeIn K cd30 "_law_taken" = true) (k30 : PySem.W.keepIn K (.ref f30) = true)
    (a31 : PySem.W.nsIn K mainGlobals "_law_setting" = some (some (.ref f31))) (l31 : K.lookup f31 = some ⟨oc31, od31, .func (PySem.W.fnOf "_law_setting" "_law_setting" (defArgs s__law_setting) (defBody s__law_setting) (defScope s__law_setting) .none kV31 dc31 pm31 an31 cd31 ct31), sl31⟩) (c31 : PySem.W.codeIn K cd31 "_law_setting" = true) (k31 : PySem.W.keepIn K (.ref f31) = true)
    (a32 : PySem.W.nsIn K mainGlobals "_law_word" = some (some (.ref f32))) (l32 : K.lookup f32 = some ⟨oc32, od32, .func (PySem.W.fnOf "_law_word" "_law_word" (defArgs s__law_word) (defBody s__law_word) (defScope s__law_word) .none kV32 dc32 pm32 an32 cd32 ct32), sl32⟩) (c32 : PySem.W.codeIn K cd32 "_law_word" = true) (k32 : PySem.W.keepIn K (.ref f32) = true)
    (a33 : PySem.W.nsIn K mainGlobals "_law_is_guesser" = some (some (.ref f33))) (l33 : K.lookup f33 = some ⟨oc33, od33, .func (PySem.W.fnOf "_law_is_guesser" "_law_is_guesser" (defArgs s__law_is_guesser) (defBody s__law_is_guesser) (defScope s__law_is_guesser) .none kV33 dc33 pm33 an33 cd33 ct33), sl33⟩) (c33 : PySem.W.codeIn K cd33 "_law_is_guesser" = true) (k33 : PySem.W.keepIn K (.ref f33) = true)
    (a34 : PySem.W.nsIn K mainGlobals "_law_odd_guesser" = some (some (.ref f34))) (l34 : K.lookup f34 = some ⟨oc34, od34, .func (PySem.W.fnOf "_law_odd_guesser" "_law_odd_guesser" (defArgs s__law_odd_guesser) (defBody s__law_odd_guesser) (defScope s__law_odd_guesser) .none kV34 dc34 pm34 an34 cd34 ct34), sl34⟩) (c34 : PySem.W.codeIn K cd34 "_law_odd_guesser" = true) (k34 : PySem.W.keepIn K (.ref f34) = true)
    (a35 : PySem.W.nsIn K mainGlobals "_law_spoilt" = some (some (.ref f35))) (l35 : K.lookup f35 = some ⟨oc35, od35, .func (PySem.W.fnOf "_law_spoilt" "_law_spoilt" (defArgs s__law_spoilt) (defBody s__law_spoilt) (defScope s__law_spoilt) .none kV35 dc35 pm35 an35 cd35 ct35), sl35⟩) (c35 : PySem.W.codeIn K cd35 "_law_spoilt" = true) (k35 : PySem.W.keepIn K (.ref f35) = true)
    (a36 : PySem.W.nsIn K mainGlobals "_law_why" = some (some (.ref f36))) (l36 : K.lookup f36 = some ⟨oc36, od36, .func (PySem.W.fnOf "_law_why" "_law_why" (defArgs s__law_why) (defBody s__law_why) (defScope s__law_why) .none kV36 dc36 pm36 an36 cd36 ct36), sl36⟩) (c36 : PySem.W.codeIn K cd36 "_law_why" = true) (k36 : PySem.W.keepIn K (.ref f36) = true)
    (a37 : PySem.W.nsIn K mainGlobals "_law_works" = some (some (.ref f37))) (l37 : K.lookup f37 = some ⟨oc37, od37, .func (PySem.W.fnOf "_law_works" "_law_works" (defArgs s__law_works) (defBody s__law_works) (defScope s__law_works) .none kV37 dc37 pm37 an37 (.ref cc37) ct37), sl37⟩) (c37 : PySem.W.codeIn K (.ref cc37) "_law_works" = true) (k37 : PySem.W.keepIn K (.ref f37) = true)
    (a38 : PySem.W.nsIn K mainGlobals "law" = some (some (.ref f38))) (l38 : K.lookup f38 = some ⟨oc38, od38, .func (PySem.W.fnOf "law" "law" (defArgs s_law) (defBody s_law) (defScope s_law) .none kV38 dc38 pm38 an38 (.ref cc38) ct38), sl38⟩) (c38 : PySem.W.codeIn K (.ref cc38) "law" = true) (k38 : PySem.W.keepIn K (.ref f38) = true)
    (aC0 : PySem.W.nsIn K mainGlobals "House" = some (some (.ref C0))) (pgC0 : PySem.W.plainGet K C0 Str.empty = true) (hdC0 : PySem.W.hasDictIn K C0 = true) (poC0 : PySem.W.plainOver K C0 = true) (saC0 : PySem.W.findIn K (.ref C0) "__setattr__" = some (some (.builtin "object.__setattr__"))) (mkC0 : PySem.W.makesIn K C0 = true) (kcC0 : PySem.W.keepIn K (.ref C0) = true)
    (nat_House_places : PySem.W.findIn K (.ref C0) "places" = some none)
    (nat_House_room : PySem.W.findIn K (.ref C0) "room" = some none)
    (nat_House_late : PySem.W.findIn K (.ref C0) "late" = some none)
    (nat_House_most : PySem.W.findIn K (.ref C0) "most" = some none)
    (aC1 : PySem.W.nsIn K mainGlobals "Run" = some (some (.ref C1))) (pgC1 : PySem.W.plainGet K C1 Str.empty = true) (hdC1 : PySem.W.hasDictIn K C1 = true) (poC1 : PySem.W.plainOver K C1 = true) (saC1 : PySem.W.findIn K (.ref C1) "__setattr__" = some (some (.builtin "object.__setattr__"))) (mkC1 : PySem.W.makesIn K C1 = true) (kcC1 : PySem.W.keepIn K (.ref C1) = true)
    (nat_Run_house : PySem.W.findIn K (.ref C1) "house" = some none)
    (nat_Run_guesser : PySem.W.findIn K (.ref C1) "guesser" = some none)
    (nat_Run_cells : PySem.W.findIn K (.ref C1) "cells" = some none)
    (nat_Run_lies : PySem.W.findIn K (.ref C1) "lies" = some none)
    (nat_Run_answers : PySem.W.findIn K (.ref C1) "answers" = some none)
    (nat_Run_rows : PySem.W.findIn K (.ref C1) "rows" = some none)
    (nat_Run_state : PySem.W.findIn K (.ref C1) "state" = some none)
    (am0 : PySem.W.findIn K (.ref C0) "__init__" = some (some (.ref fm0))) (im0 : PySem.W.isFn K (.ref fm0) = true) (lm0 : K.lookup fm0 = some ⟨ocm0, odm0, .func (PySem.W.fnOf "__init__" "House.__init__" (defArgs s_House___init__) (defBody s_House___init__) (defScope s_House___init__) .none kVm0 dcm0 pmm0 anm0 cdm0 ctm0), slm0⟩) (cm0 : PySem.W.codeIn K cdm0 "House.__init__" = true) (km0 : PySem.W.keepIn K (.ref fm0) = true)
    (am1 : PySem.W.findIn K (.ref C1) "__init__" = some (some (.ref fm1))) (im1 : PySem.W.isFn K (.ref fm1) = true) (lm1 : K.lookup fm1 = some ⟨ocm1, odm1, .func (PySem.W.fnOf "__init__" "Run.__init__" (defArgs s_Run___init__) (defBody s_Run___init__) (defScope s_Run___init__) .none kVm1 dcm1 pmm1 anm1 cdm1 ctm1), slm1⟩) (cm1 : PySem.W.codeIn K cdm1 "Run.__init__" = true) (km1 : PySem.W.keepIn K (.ref fm1) = true)
    (am2 : PySem.W.findIn K (.ref C1) "do_deed" = some (some (.ref fm2))) (im2 : PySem.W.isFn K (.ref fm2) = true) (lm2 : K.lookup fm2 = some ⟨ocm2, odm2, .func (PySem.W.fnOf "do_deed" "Run.do_deed" (defArgs s_Run_do_deed) (defBody s_Run_do_deed) (defScope s_Run_do_deed) .none kVm2 dcm2 pmm2 anm2 cdm2 ctm2), slm2⟩) (cm2 : PySem.W.codeIn K cdm2 "Run.do_deed" = true) (km2 : PySem.W.keepIn K (.ref fm2) = true)
    (am3 : PySem.W.findIn K (.ref C1) "count" = some (some (.ref fm3))) (im3 : PySem.W.isFn K (.ref fm3) = true) (lm3 : K.lookup fm3 = some ⟨ocm3, odm3, .func (PySem.W.fnOf "count" "Run.count" (defArgs s_Run_count) (defBody s_Run_count) (defScope s_Run_count) .none kVm3 dcm3 pmm3 anm3 cdm3 ctm3), slm3⟩) (cm3 : PySem.W.codeIn K cdm3 "Run.count" = true) (km3 : PySem.W.keepIn K (.ref fm3) = true)
    (am4 : PySem.W.findIn K (.ref C1) "counts" = some (some (.ref fm4))) (im4 : PySem.W.isFn K (.ref fm4) = true) (lm4 : K.lookup fm4 = some ⟨ocm4, odm4, .func (PySem.W.fnOf "counts" "Run.counts" (defArgs s_Run_counts) (defBody s_Run_counts) (defScope s_Run_counts) .none kVm4 dcm4 pmm4 anm4 cdm4 ctm4), slm4⟩) (cm4 : PySem.W.codeIn K cdm4 "Run.counts" = true) (km4 : PySem.W.keepIn K (.ref fm4) = true)
    (aE0 : PySem.W.nsIn K mainGlobals "WellError" = some (some (.ref E0)))
    (exE0 : PySem.W.subIn K (.ref E0) (.type "BaseException") = some true)
    (hdE0 : PySem.W.hasDictIn K E0 = true)
    (tyE0 : PySem.W.typeIn K (.ref E0) = some (.type "type"))
    (rdE0 : PySem.W.readsIn K E0 (.type "type") = true)
    (sgE0 : PySem.W.specialIn K (.ref E0) "__getattribute__" = some (some (.builtin "type.__getattribute__")))
    (nvE0 : PySem.W.nsIn K mainGlobals "ValueError" = some none)
    (fcE0 : PySem.W.findCls K (.ref E0) (.type "type") "__init__" = some (.val (.builtin "ValueError.__init__")))
    (hnE0 : PySem.W.specialIn K (.builtin "object.__class__") "__get__" = some (some (.builtin "getset_descriptor.__get__")))
    (htE0 : PySem.W.takesIn K (.builtin "object.__class__") = some true)
    (aE1 : PySem.W.nsIn K mainGlobals "BadAsk" = some (some (.ref E1)))
    (kpE1 : PySem.W.keepIn K (.ref E1) = true)
    (exE1 : PySem.W.subIn K (.ref E1) (.type "BaseException") = some true)
    (veE1 : PySem.W.subIn K (.ref E1) (.type "ValueError") = some true)
    (weE1 : PySem.W.subIn K (.ref E1) (.ref E0) = some true)
    (tyE1 : PySem.W.typeIn K (.ref E1) = some (.type "type"))
    (hdE1 : PySem.W.hasDictIn K E1 = true)
    (gaE1 : PySem.W.findIn K (.ref E1) "__getattribute__" = some (some (.builtin "BaseException.__getattribute__")))
    (ggE1 : PySem.W.findIn K (.ref E1) "__getattr__" = some none)
    (haE1 : PySem.W.findIn K (.ref E1) "__class__" = some (some (.builtin "object.__class__")))
    (hmE1 : PySem.W.mroIn K E1 (.type "object") = some true)
    (xpE1 : PySem.W.excIn K E1 [.type "ValueError", .type "Exception", .type "BaseException", .type "object"] "ValueError.__new__" = true)
    (aE2 : PySem.W.nsIn K mainGlobals "BadGuesser" = some (some (.ref E2)))
    (kpE2 : PySem.W.keepIn K (.ref E2) = true)
    (exE2 : PySem.W.subIn K (.ref E2) (.type "BaseException") = some true)
    (veE2 : PySem.W.subIn K (.ref E2) (.type "ValueError") = some true)
    (weE2 : PySem.W.subIn K (.ref E2) (.ref E0) = some true)
    (tyE2 : PySem.W.typeIn K (.ref E2) = some (.type "type"))
    (hdE2 : PySem.W.hasDictIn K E2 = true)
    (gaE2 : PySem.W.findIn K (.ref E2) "__getattribute__" = some (some (.builtin "BaseException.__getattribute__")))
    (ggE2 : PySem.W.findIn K (.ref E2) "__getattr__" = some none)
    (haE2 : PySem.W.findIn K (.ref E2) "__class__" = some (some (.builtin "object.__class__")))
    (hmE2 : PySem.W.mroIn K E2 (.type "object") = some true)
    (xpE2 : PySem.W.excIn K E2 [.type "ValueError", .type "Exception", .type "BaseException", .type "object"] "ValueError.__new__" = true)
    (aE3 : PySem.W.nsIn K mainGlobals "BadRow" = some (some (.ref E3)))
    (kpE3 : PySem.W.keepIn K (.ref E3) = true)
    (exE3 : PySem.W.subIn K (.ref E3) (.type "BaseException") = some true)
    (veE3 : PySem.W.subIn K (.ref E3) (.type "ValueError") = some true)
    (weE3 : PySem.W.subIn K (.ref E3) (.ref E0) = some true)
    (tyE3 : PySem.W.typeIn K (.ref E3) = some (.type "type"))
    (hdE3 : PySem.W.hasDictIn K E3 = true)
    (gaE3 : PySem.W.findIn K (.ref E3) "__getattribute__" = some (some (.builtin "BaseException.__getattribute__")))
    (ggE3 : PySem.W.findIn K (.ref E3) "__getattr__" = some none)
    (haE3 : PySem.W.findIn K (.ref E3) "__class__" = some (some (.builtin "object.__class__")))
    (hmE3 : PySem.W.mroIn K E3 (.type "object") = some true)
    (clE3 : K.lookup E3 = some (excClassObj nmE3 qE3 E3 NE3 bsE3 bmE3 true snE3 suE3 abE3 coE3 ddE3 m0E3 m1E3 m2E3 m3E3 m5E3 "ValueError.__new__"))
    (rvE3 : PySem.HandSPX.refsVE bmE3 = true)
    (saE3 : PySem.W.findIn K (.ref E3) "__setattr__" = some (some (.builtin "object.__setattr__")))
    (iCE3 : PySem.W.findIn K (.ref E3) "__init__" = some (some (.ref fE3)))
    (tIE3 : PySem.W.typeIn K (.ref fE3) = some (.type "function"))
    (noE3 : PySem.W.findIn K (.ref E3) "number" = some none)
    (flE3 : K.lookup fE3 = some ⟨ocE3, odE3, .func (PySem.W.fnOf "__init__" "BadRow.__init__" (defArgs s_BadRow___init__) (defBody s_BadRow___init__) (defScope s_BadRow___init__) .none kVE3 dcE3 pmE3 anE3 cdE3 ctE3), slE3⟩)
    (fcE3 : PySem.W.codeIn K cdE3 "BadRow.__init__" = true)
    (fkE3 : PySem.W.keepIn K (.ref fE3) = true)
    (aE4 : PySem.W.nsIn K mainGlobals "BadSetting" = some (some (.ref E4)))
    (kpE4 : PySem.W.keepIn K (.ref E4) = true)
    (exE4 : PySem.W.subIn K (.ref E4) (.type "BaseException") = some true)
    (veE4 : PySem.W.subIn K (.ref E4) (.type "ValueError") = some true)
    (weE4 : PySem.W.subIn K (.ref E4) (.ref E0) = some true)
    (tyE4 : PySem.W.typeIn K (.ref E4) = some (.type "type"))
    (hdE4 : PySem.W.hasDictIn K E4 = true)
    (gaE4 : PySem.W.findIn K (.ref E4) "__getattribute__" = some (some (.builtin "BaseException.__getattribute__")))
    (ggE4 : PySem.W.findIn K (.ref E4) "__getattr__" = some none)
    (haE4 : PySem.W.findIn K (.ref E4) "__class__" = some (some (.builtin "object.__class__")))
    (hmE4 : PySem.W.mroIn K E4 (.type "object") = some true)
    (clE4 : K.lookup E4 = some (excClassObj nmE4 qE4 E4 NE4 bsE4 bmE4 true snE4 suE4 abE4 coE4 ddE4 m0E4 m1E4 m2E4 m3E4 m5E4 "ValueError.__new__"))
    (rvE4 : PySem.HandSPX.refsVE bmE4 = true)
    (saE4 : PySem.W.findIn K (.ref E4) "__setattr__" = some (some (.builtin "object.__setattr__")))
    (iCE4 : PySem.W.findIn K (.ref E4) "__init__" = some (some (.ref fE4)))
    (tIE4 : PySem.W.typeIn K (.ref fE4) = some (.type "function"))
    (noE4 : PySem.W.findIn K (.ref E4) "word" = some none)
    (flE4 : K.lookup fE4 = some ⟨ocE4, odE4, .func (PySem.W.fnOf "__init__" "BadSetting.__init__" (defArgs s_BadSetting___init__) (defBody s_BadSetting___init__) (defScope s_BadSetting___init__) .none kVE4 dcE4 pmE4 anE4 cdE4 ctE4), slE4⟩)
    (fcE4 : PySem.W.codeIn K cdE4 "BadSetting.__init__" = true)
    (fkE4 : PySem.W.keepIn K (.ref fE4) = true)
    (aE5 : PySem.W.nsIn K mainGlobals "BadText" = some (some (.ref E5)))
    (kpE5 : PySem.W.keepIn K (.ref E5) = true)
    (exE5 : PySem.W.subIn K (.ref E5) (.type "BaseException") = some true)
    (veE5 : PySem.W.subIn K (.ref E5) (.type "ValueError") = some true)
    (weE5 : PySem.W.subIn K (.ref E5) (.ref E0) = some true)
    (tyE5 : PySem.W.typeIn K (.ref E5) = some (.type "type"))
    (hdE5 : PySem.W.hasDictIn K E5 = true)
    (gaE5 : PySem.W.findIn K (.ref E5) "__getattribute__" = some (some (.builtin "BaseException.__getattribute__")))
    (ggE5 : PySem.W.findIn K (.ref E5) "__getattr__" = some none)
    (haE5 : PySem.W.findIn K (.ref E5) "__class__" = some (some (.builtin "object.__class__")))
    (hmE5 : PySem.W.mroIn K E5 (.type "object") = some true)
    (clE5 : K.lookup E5 = some (excClassObj nmE5 qE5 E5 NE5 bsE5 bmE5 true snE5 suE5 abE5 coE5 ddE5 m0E5 m1E5 m2E5 m3E5 m5E5 "ValueError.__new__"))
    (rvE5 : PySem.HandSPX.refsVE bmE5 = true)
    (saE5 : PySem.W.findIn K (.ref E5) "__setattr__" = some (some (.builtin "object.__setattr__")))
    (iCE5 : PySem.W.findIn K (.ref E5) "__init__" = some (some (.ref fE5)))
    (tIE5 : PySem.W.typeIn K (.ref fE5) = some (.type "function"))
    (noE5 : PySem.W.findIn K (.ref E5) "place" = some none)
    (flE5 : K.lookup fE5 = some ⟨ocE5, odE5, .func (PySem.W.fnOf "__init__" "BadText.__init__" (defArgs s_BadText___init__) (defBody s_BadText___init__) (defScope s_BadText___init__) .none kVE5 dcE5 pmE5 anE5 cdE5 ctE5), slE5⟩)
    (fcE5 : PySem.W.codeIn K cdE5 "BadText.__init__" = true)
    (fkE5 : PySem.W.keepIn K (.ref fE5) = true)
    (sb1_1 : PySem.W.subIn K (.ref E1) (.ref E1) = some true)
    (sb1_2 : PySem.W.subIn K (.ref E1) (.ref E2) = some false)
    (ne1_2 : E1 ≠ E2)
    (sb1_3 : PySem.W.subIn K (.ref E1) (.ref E3) = some false)
    (ne1_3 : E1 ≠ E3)
    (sb1_4 : PySem.W.subIn K (.ref E1) (.ref E4) = some false)
    (ne1_4 : E1 ≠ E4)
    (sb1_5 : PySem.W.subIn K (.ref E1) (.ref E5) = some false)
    (ne1_5 : E1 ≠ E5)
    (sb2_1 : PySem.W.subIn K (.ref E2) (.ref E1) = some false)
    (ne2_1 : E2 ≠ E1)
    (sb2_2 : PySem.W.subIn K (.ref E2) (.ref E2) = some true)
    (sb2_3 : PySem.W.subIn K (.ref E2) (.ref E3) = some false)
    (ne2_3 : E2 ≠ E3)
    (sb2_4 : PySem.W.subIn K (.ref E2) (.ref E4) = some false)
    (ne2_4 : E2 ≠ E4)
    (sb2_5 : PySem.W.subIn K (.ref E2) (.ref E5) = some false)
    (ne2_5 : E2 ≠ E5)
    (sb3_1 : PySem.W.subIn K (.ref E3) (.ref E1) = some false)
    (ne3_1 : E3 ≠ E1)
    (sb3_2 : PySem.W.subIn K (.ref E3) (.ref E2) = some false)
    (ne3_2 : E3 ≠ E2)
    (sb3_3 : PySem.W.subIn K (.ref E3) (.ref E3) = some true)
    (sb3_4 : PySem.W.subIn K (.ref E3) (.ref E4) = some false)
    (ne3_4 : E3 ≠ E4)
    (sb3_5 : PySem.W.subIn K (.ref E3) (.ref E5) = some false)
    (ne3_5 : E3 ≠ E5)
    (sb4_1 : PySem.W.subIn K (.ref E4) (.ref E1) = some false)
    (ne4_1 : E4 ≠ E1)
    (sb4_2 : PySem.W.subIn K (.ref E4) (.ref E2) = some false)
    (ne4_2 : E4 ≠ E2)
    (sb4_3 : PySem.W.subIn K (.ref E4) (.ref E3) = some false)
    (ne4_3 : E4 ≠ E3)
    (sb4_4 : PySem.W.subIn K (.ref E4) (.ref E4) = some true)
    (sb4_5 : PySem.W.subIn K (.ref E4) (.ref E5) = some false)
    (ne4_5 : E4 ≠ E5)
    (ad0 : PySem.W.nsIn K mainGlobals "SORTS" = some (some (.ref d0))) (ld0 : K.lookup d0 = some ⟨.type "dict", none, .dict es0 en0, #[]⟩) (lo0 : (d0 == sysModules) = false) (li0 : PySem.W.KeysLit w.params es0.toList) (ee0 : ∃ t0 u0 t1 u1 t2 u2 t3 u3 t4 u4, es0.toList.map (fun e => (e.key, e.val)) = [(.str "none" t0, .int 1 u0), (.str "next" t1, .int 2 u1), (.str "stride" t2, .int 2 u2), (.str "pairs" t3, .int 2 u3), (.str "both" t4, .int 3 u4)])
    (ad1 : PySem.W.nsIn K mainGlobals "MOST_OF" = some (some (.ref d1))) (ld1 : K.lookup d1 = some ⟨.type "dict", none, .dict es1 en1, #[]⟩) (lo1 : (d1 == sysModules) = false) (li1 : PySem.W.KeysLit w.params es1.toList) (ee1 : ∃ t0 u0 t1 u1 t2 u2, es1.toList.map (fun e => (e.key, e.val)) = [(.str "next" t0, .int 3 u0), (.str "stride" t1, .int 3 u1), (.str "pairs" t2, .int 2 u2)])
    (ai0 : PySem.W.nsIn K mainGlobals "MOST_WITHIN" = some (some (.int 3 ti0)))
    (ai1 : PySem.W.nsIn K mainGlobals "MOST_PLACES" = some (some (.int 32 ti1)))
    (ai2 : PySem.W.nsIn K mainGlobals "MOST_NUMBER" = some (some (.int 99 ti2)))
    (ai3 : PySem.W.nsIn K mainGlobals "MOST_ROOM" = some (some (.int 8 ti3)))
    (ai4 : PySem.W.nsIn K mainGlobals "MOST_LATE" = some (some (.int 4 ti4)))
    (ai5 : PySem.W.nsIn K mainGlobals "MOST_WAY" = some (some (.int 4 ti5)))
    (ai6 : PySem.W.nsIn K mainGlobals "MOST_DEEDS" = some (some (.int 100 ti6)))
    (ai7 : PySem.W.nsIn K mainGlobals "MOST_WEIGHT" = some (some (.int 9 ti7)))
    (ai8 : PySem.W.nsIn K mainGlobals "MOST_GUESSERS" = some (some (.int 8 ti8)))
    (ai9 : PySem.W.nsIn K mainGlobals "MOST_ASKED" = some (some (.int 4 ti9)))
    (ai10 : PySem.W.nsIn K mainGlobals "MOST_LENGTH" = some (some (.int 7 ti10)))
    (ai11 : PySem.W.nsIn K mainGlobals "MOST_ROWS" = some (some (.int 1024 ti11)))
    (z0 : PySem.W.nsIn K mainGlobals "len" = some none)
    (z1 : PySem.W.nsIn K mainGlobals "range" = some none)
    (z2 : PySem.W.nsIn K mainGlobals "int" = some none)
    (z3 : PySem.W.nsIn K mainGlobals "str" = some none)
    (z4 : PySem.W.nsIn K mainGlobals "bool" = some none)
    (z5 : PySem.W.nsIn K mainGlobals "tuple" = some none)
    (z6 : PySem.W.nsIn K mainGlobals "list" = some none)
    (z7 : PySem.W.nsIn K mainGlobals "isinstance" = some none)
    (z8 : PySem.W.nsIn K mainGlobals "max" = some none)
    (z9 : PySem.W.nsIn K mainGlobals "min" = some none)
    (z10 : PySem.W.nsIn K mainGlobals "sum" = some none)
    (z11 : PySem.W.nsIn K mainGlobals "sorted" = some none)
    (z12 : PySem.W.nsIn K mainGlobals "dict" = some none)
    (z13 : PySem.W.nsIn K mainGlobals "set" = some none)
    (z14 : PySem.W.nsIn K mainGlobals "zip" = some none)
    (z15 : PySem.W.nsIn K mainGlobals "enumerate" = some none)
    (lcc37 : K.lookup cc37 = some ⟨occ37, odcc37, .fields vcc37, slcc37⟩) (pcc37 : vcc37[11]? = some (.ref Pc37)) (hcc37 : PySem.W.codeHdIn K cc37 Pc37 = true) (ncc37 : (K.lookup Pc37).isNone = true) (tcc37 : h.get? Pc37 = some { cls := .none, data := .fields #[] })
    (lcc38 : K.lookup cc38 = some ⟨occ38, odcc38, .fields vcc38, slcc38⟩) (pcc38 : vcc38[11]? = some (.ref Pc38)) (hcc38 : PySem.W.codeHdIn K cc38 Pc38 = true) (ncc38 : (K.lookup Pc38).isNone = true) (tcc38 : h.get? Pc38 = some { cls := .none, data := .fields #[] })
    (nP37_38 : Pc37 ≠ Pc38)
    (nP38_37 : Pc38 ≠ Pc37) :
    LamX.LawAtS l w K CX0 16 63 "_law_script" mg fa h := by
  have e := hfa.symm.trans (PySem.W.mg_of X G a38)
  cases e
  have D_laid : Df K mg "laid" s_laid p_laid f0 (PySem.W.fnOf "laid" "laid" (defArgs s_laid) (defBody s_laid) (defScope s_laid) .none kV0 dc0 pm0 an0 cd0 ct0) := ⟨fun_mk (st := s_laid) l0 c0 k0, PySem.W.mg_of X G a0, (fun_mk (st := s_laid) l0 c0 k0).binds (ps := p_laid) fun _ _ _ _ _ _ us hl => match us, hl with | [_, _, _, _, _], _ => rfl⟩
  have D_come : Df K mg "come" s_come p_come f1 (PySem.W.fnOf "come" "come" (defArgs s_come) (defBody s_come) (defScope s_come) .none kV1 dc1 pm1 an1 cd1 ct1) := ⟨fun_mk (st := s_come) l1 c1 k1, PySem.W.mg_of X G a1, (fun_mk (st := s_come) l1 c1 k1).binds (ps := p_come) fun _ _ _ _ _ _ us hl => match us, hl with | [_, _, _, _], _ => rfl⟩
  have D_asked : Df K mg "asked" s_asked p_asked f2 (PySem.W.fnOf "asked" "asked" (defArgs s_asked) (defBody s_asked) (defScope s_asked) .none kV2 dc2 pm2 an2 cd2 ct2) := ⟨fun_mk (st := s_asked) l2 c2 k2, PySem.W.mg_of X G a2, (fun_mk (st := s_asked) l2 c2 k2).binds (ps := p_asked) fun _ _ _ _ _ _ us hl => match us, hl with | [_, _, _, _, _], _ => rfl⟩
  have D_started : Df K mg "started" s_started p_started f3 (PySem.W.fnOf "started" "started" (defArgs s_started) (defBody s_started) (defScope s_started) .none kV3 dc3 pm3 an3 cd3 ct3) := ⟨fun_mk (st := s_started) l3 c3 k3, PySem.W.mg_of X G a3, (fun_mk (st := s_started) l3 c3 k3).binds (ps := p_started) fun _ _ _ _ _ _ us hl => match us, hl with | [_, _, _, _, _], _ => rfl⟩
  have D_strided : Df K mg "strided" s_strided p_strided f4 (PySem.W.fnOf "strided" "strided" (defArgs s_strided) (defBody s_strided) (defScope s_strided) .none kV4 dc4 pm4 an4 cd4 ct4) := ⟨fun_mk (st := s_strided) l4 c4 k4, PySem.W.mg_of X G a4, (fun_mk (st := s_strided) l4 c4 k4).binds (ps := p_strided) fun _ _ _ _ _ _ us hl => match us, hl with | [_, _, _], _ => rfl⟩
  have D_paired : Df K mg "paired" s_paired p_paired f5 (PySem.W.fnOf "paired" "paired" (defArgs s_paired) (defBody s_paired) (defScope s_paired) .none kV5 dc5 pm5 an5 cd5 ct5) := ⟨fun_mk (st := s_paired) l5 c5 k5, PySem.W.mg_of X G a5, (fun_mk (st := s_paired) l5 c5 k5).binds (ps := p_paired) fun _ _ _ _ _ _ us hl => match us, hl with | [_, _, _], _ => rfl⟩
  have D_stepped : Df K mg "stepped" s_stepped p_stepped f6 (PySem.W.fnOf "stepped" "stepped" (defArgs s_stepped) (defBody s_stepped) (defScope s_stepped) .none kV6 dc6 pm6 an6 cd6 ct6) := ⟨fun_mk (st := s_stepped) l6 c6 k6, PySem.W.mg_of X G a6, (fun_mk (st := s_stepped) l6 c6 k6).binds (ps := p_stepped) fun _ _ _ _ _ _ us hl => match us, hl with | [_, _, _], _ => rfl⟩
  have D_gone_on : Df K mg "gone_on" s_gone_on p_gone_on f7 (PySem.W.fnOf "gone_on" "gone_on" (defArgs s_gone_on) (defBody s_gone_on) (defScope s_gone_on) .none kV7 dc7 pm7 an7 cd7 ct7) := ⟨fun_mk (st := s_gone_on) l7 c7 k7, PySem.W.mg_of X G a7, (fun_mk (st := s_gone_on) l7 c7 k7).binds (ps := p_gone_on) fun _ _ _ _ _ _ us hl => match us, hl with | [_, _, _, _], _ => rfl⟩
  have D_first_state : Df K mg "first_state" s_first_state p_first_state f8 (PySem.W.fnOf "first_state" "first_state" (defArgs s_first_state) (defBody s_first_state) (defScope s_first_state) .none kV8 dc8 pm8 an8 cd8 ct8) := ⟨fun_mk (st := s_first_state) l8 c8 k8, PySem.W.mg_of X G a8, (fun_mk (st := s_first_state) l8 c8 k8).binds (ps := p_first_state) fun _ _ _ _ _ _ us hl => match us, hl with | [_], _ => rfl⟩
  have D_begun : Df K mg "begun" s_begun p_begun f9 (PySem.W.fnOf "begun" "begun" (defArgs s_begun) (defBody s_begun) (defScope s_begun) .none kV9 dc9 pm9 an9 cd9 ct9) := ⟨fun_mk (st := s_begun) l9 c9 k9, PySem.W.mg_of X G a9, (fun_mk (st := s_begun) l9 c9 k9).binds (ps := p_begun) fun _ _ _ _ _ _ us hl => match us, hl with | [_], _ => rfl⟩
  have D_is_guesser : Df K mg "is_guesser" s_is_guesser p_is_guesser f10 (PySem.W.fnOf "is_guesser" "is_guesser" (defArgs s_is_guesser) (defBody s_is_guesser) (defScope s_is_guesser) .none kV10 dc10 pm10 an10 cd10 ct10) := ⟨fun_mk (st := s_is_guesser) l10 c10 k10, PySem.W.mg_of X G a10, (fun_mk (st := s_is_guesser) l10 c10 k10).binds (ps := p_is_guesser) fun _ _ _ _ _ _ us hl => match us, hl with | [_, _], _ => rfl⟩
  have D_need_guesser : Df K mg "need_guesser" s_need_guesser p_need_guesser f11 (PySem.W.fnOf "need_guesser" "need_guesser" (defArgs s_need_guesser) (defBody s_need_guesser) (defScope s_need_guesser) .none kV11 dc11 pm11 an11 cd11 ct11) := ⟨fun_mk (st := s_need_guesser) l11 c11 k11, PySem.W.mg_of X G a11, (fun_mk (st := s_need_guesser) l11 c11 k11).binds (ps := p_need_guesser) fun _ _ _ _ _ _ us hl => match us, hl with | [_], _ => rfl⟩
  have D_need_setting : Df K mg "need_setting" s_need_setting p_need_setting f12 (PySem.W.fnOf "need_setting" "need_setting" (defArgs s_need_setting) (defBody s_need_setting) (defScope s_need_setting) .none kV12 dc12 pm12 an12 cd12 ct12) := ⟨fun_mk (st := s_need_setting) l12 c12 k12, PySem.W.mg_of X G a12, (fun_mk (st := s_need_setting) l12 c12 k12).binds (ps := p_need_setting) fun _ _ _ _ _ _ us hl => match us, hl with | [_], _ => rfl⟩
  have D_is_deed : Df K mg "is_deed" s_is_deed p_is_deed f13 (PySem.W.fnOf "is_deed" "is_deed" (defArgs s_is_deed) (defBody s_is_deed) (defScope s_is_deed) .none kV13 dc13 pm13 an13 cd13 ct13) := ⟨fun_mk (st := s_is_deed) l13 c13 k13, PySem.W.mg_of X G a13, (fun_mk (st := s_is_deed) l13 c13 k13).binds (ps := p_is_deed) fun _ _ _ _ _ _ us hl => match us, hl with | [_, _], _ => rfl⟩
  have D_need_row : Df K mg "need_row" s_need_row p_need_row f14 (PySem.W.fnOf "need_row" "need_row" (defArgs s_need_row) (defBody s_need_row) (defScope s_need_row) .none kV14 dc14 pm14 an14 cd14 ct14) := ⟨fun_mk (st := s_need_row) l14 c14 k14, PySem.W.mg_of X G a14, (fun_mk (st := s_need_row) l14 c14 k14).binds (ps := p_need_row) fun _ _ _ _ _ _ us hl => match us, hl with | [_, _], _ => rfl⟩
  have D_need_all : Df K mg "need_all" s_need_all p_need_all f15 (PySem.W.fnOf "need_all" "need_all" (defArgs s_need_all) (defBody s_need_all) (defScope s_need_all) .none kV15 dc15 pm15 an15 cd15 ct15) := ⟨fun_mk (st := s_need_all) l15 c15 k15, PySem.W.mg_of X G a15, (fun_mk (st := s_need_all) l15 c15 k15).binds (ps := p_need_all) fun _ _ _ _ _ _ us hl => match us, hl with | [_, _, _], _ => rfl⟩
  have D_idle_in : Df K mg "idle_in" s_idle_in p_idle_in f16 (PySem.W.fnOf "idle_in" "idle_in" (defArgs s_idle_in) (defBody s_idle_in) (defScope s_idle_in) .none kV16 dc16 pm16 an16 cd16 ct16) := ⟨fun_mk (st := s_idle_in) l16 c16 k16, PySem.W.mg_of X G a16, (fun_mk (st := s_idle_in) l16 c16 k16).binds (ps := p_idle_in) fun _ _ _ _ _ _ us hl => match us, hl with | [_], _ => rfl⟩
  have D_need_weights : Df K mg "need_weights" s_need_weights p_need_weights f17 (PySem.W.fnOf "need_weights" "need_weights" (defArgs s_need_weights) (defBody s_need_weights) (defScope s_need_weights) .none kV17 dc17 pm17 an17 cd17 ct17) := ⟨fun_mk (st := s_need_weights) l17 c17 k17, PySem.W.mg_of X G a17, (fun_mk (st := s_need_weights) l17 c17 k17).binds (ps := p_need_weights) fun _ _ _ _ _ _ us hl => match us, hl with | [_], _ => rfl⟩
  have D_weighed : Df K mg "weighed" s_weighed p_weighed f18 (PySem.W.fnOf "weighed" "weighed" (defArgs s_weighed) (defBody s_weighed) (defScope s_weighed) .none kV18 dc18 pm18 an18 cd18 ct18) := ⟨fun_mk (st := s_weighed) l18 c18 k18, PySem.W.mg_of X G a18, (fun_mk (st := s_weighed) l18 c18 k18).binds (ps := p_weighed) fun _ _ _ _ _ _ us hl => match us, hl with | [_, _], _ => rfl⟩
  have D_need_rows : Df K mg "need_rows" s_need_rows p_need_rows f19 (PySem.W.fnOf "need_rows" "need_rows" (defArgs s_need_rows) (defBody s_need_rows) (defScope s_need_rows) .none kV19 dc19 pm19 an19 cd19 ct19) := ⟨fun_mk (st := s_need_rows) l19 c19 k19, PySem.W.mg_of X G a19, (fun_mk (st := s_need_rows) l19 c19 k19).binds (ps := p_need_rows) fun _ _ _ _ _ _ us hl => match us, hl with | [_, _, _], _ => rfl⟩
  have D_turn_cost : Df K mg "turn_cost" s_turn_cost p_turn_cost f20 (PySem.W.fnOf "turn_cost" "turn_cost" (defArgs s_turn_cost) (defBody s_turn_cost) (defScope s_turn_cost) .none kV20 dc20 pm20 an20 cd20 ct20) := ⟨fun_mk (st := s_turn_cost) l20 c20 k20, PySem.W.mg_of X G a20, (fun_mk (st := s_turn_cost) l20 c20 k20).binds (ps := p_turn_cost) fun _ _ _ _ _ _ us hl => match us, hl with | [_, _], _ => rfl⟩
  have D_both_behind : Df K mg "both_behind" s_both_behind p_both_behind f21 (PySem.W.fnOf "both_behind" "both_behind" (defArgs s_both_behind) (defBody s_both_behind) (defScope s_both_behind) .none kV21 dc21 pm21 an21 cd21 ct21) := ⟨fun_mk (st := s_both_behind) l21 c21 k21, PySem.W.mg_of X G a21, (fun_mk (st := s_both_behind) l21 c21 k21).binds (ps := p_both_behind) fun _ _ _ _ _ _ us hl => match us, hl with | [_, _, _, _, _], _ => rfl⟩
  have D_run : Df K mg "run" s_run p_run f22 (PySem.W.fnOf "run" "run" (defArgs s_run) (defBody s_run) (defScope s_run) .none kV22 dc22 pm22 an22 cd22 ct22) := ⟨fun_mk (st := s_run) l22 c22 k22, PySem.W.mg_of X G a22, (fun_mk (st := s_run) l22 c22 k22).binds (ps := p_run) fun _ _ _ _ _ _ us hl => match us, hl with | [_, _, _], _ => rfl⟩
  have D_story : Df K mg "story" s_story p_story f23 (PySem.W.fnOf "story" "story" (defArgs s_story) (defBody s_story) (defScope s_story) .none kV23 dc23 pm23 an23 cd23 ct23) := ⟨fun_mk (st := s_story) l23 c23 k23, PySem.W.mg_of X G a23, (fun_mk (st := s_story) l23 c23 k23).binds (ps := p_story) fun _ _ _ _ _ _ us hl => match us, hl with | [_, _, _], _ => rfl⟩
  have D_cost : Df K mg "cost" s_cost p_cost f24 (PySem.W.fnOf "cost" "cost" (defArgs s_cost) (defBody s_cost) (defScope s_cost) .none kV24 dc24 pm24 an24 cd24 ct24) := ⟨fun_mk (st := s_cost) l24 c24 k24, PySem.W.mg_of X G a24, (fun_mk (st := s_cost) l24 c24 k24).binds (ps := p_cost) fun _ _ _ _ _ _ us hl => match us, hl with | [_, _, _, _], _ => rfl⟩
  have D_held : Df K mg "held" s_held p_held f25 (PySem.W.fnOf "held" "held" (defArgs s_held) (defBody s_held) (defScope s_held) .none kV25 dc25 pm25 an25 cd25 ct25) := ⟨fun_mk (st := s_held) l25 c25 k25, PySem.W.mg_of X G a25, (fun_mk (st := s_held) l25 c25 k25).binds (ps := p_held) fun _ _ _ _ _ _ us hl => match us, hl with | [_, _, _, _], _ => rfl⟩
  have D_worst : Df K mg "worst" s_worst p_worst f26 (PySem.W.fnOf "worst" "worst" (defArgs s_worst) (defBody s_worst) (defScope s_worst) .none kV26 dc26 pm26 an26 cd26 ct26) := ⟨fun_mk (st := s_worst) l26 c26 k26, PySem.W.mg_of X G a26, (fun_mk (st := s_worst) l26 c26 k26).binds (ps := p_worst) fun _ _ _ _ _ _ us hl => match us, hl with | [_, _, _, _, _, _], _ => rfl⟩
  have D_guesses : Df K mg "guesses" s_guesses p_guesses f27 (PySem.W.fnOf "guesses" "guesses" (defArgs s_guesses) (defBody s_guesses) (defScope s_guesses) .none kV27 dc27 pm27 an27 cd27 ct27) := ⟨fun_mk (st := s_guesses) l27 c27 k27, PySem.W.mg_of X G a27, (fun_mk (st := s_guesses) l27 c27 k27).binds (ps := p_guesses) fun _ _ _ _ _ _ us hl => match us, hl with | [_, _], _ => rfl⟩
  have D_written : Df K mg "written" s_written p_written f28 (PySem.W.fnOf "written" "written" (defArgs s_written) (defBody s_written) (defScope s_written) .none kV28 dc28 pm28 an28 cd28 ct28) := ⟨fun_mk (st := s_written) l28 c28 k28, PySem.W.mg_of X G a28, (fun_mk (st := s_written) l28 c28 k28).binds (ps := p_written) fun _ _ _ _ _ _ us hl => match us, hl with | [_], _ => rfl⟩
  have D_words_of : Df K mg "words_of" s_words_of p_words_of f29 (PySem.W.fnOf "words_of" "words_of" (defArgs s_words_of) (defBody s_words_of) (defScope s_words_of) .none kV29 dc29 pm29 an29 cd29 ct29) := ⟨fun_mk (st := s_words_of) l29 c29 k29, PySem.W.mg_of X G a29, (fun_mk (st := s_words_of) l29 c29 k29).binds (ps := p_words_of) fun _ _ _ _ _ _ us hl => match us, hl with | [_], _ => rfl⟩
  have D__law_taken : Df K mg "_law_taken" s__law_taken p__law_taken f30 (PySem.W.fnOf "_law_taken" "_law_taken" (defArgs s__law_taken) (defBody s__law_taken) (defScope s__law_taken) .none kV30 dc30 pm30 an30 cd30 ct30) := ⟨fun_mk (st := s__law_taken) l30 c30 k30, PySem.W.mg_of X G a30, (fun_mk (st := s__law_taken) l30 c30 k30).binds (ps := p__law_taken) fun _ _ _ _ _ _ us hl => match us, hl with | [_, _], _ => rfl⟩
  have D__law_setting : Df K mg "_law_setting" s__law_setting p__law_setting f31 (PySem.W.fnOf "_law_setting" "_law_setting" (defArgs s__law_setting) (defBody s__law_setting) (defScope s__law_setting) .none kV31 dc31 pm31 an31 cd31 ct31) := ⟨fun_mk (st := s__law_setting) l31 c31 k31, PySem.W.mg_of X G a31, (fun_mk (st := s__law_setting) l31 c31 k31).binds (ps := p__law_setting) fun _ _ _ _ _ _ us hl => match us, hl with | [_, _], _ => rfl⟩
  have D__law_word : Df K mg "_law_word" s__law_word p__law_word f32 (PySem.W.fnOf "_law_word" "_law_word" (defArgs s__law_word) (defBody s__law_word) (defScope s__law_word) .none kV32 dc32 pm32 an32 cd32 ct32) := ⟨fun_mk (st := s__law_word) l32 c32 k32, PySem.W.mg_of X G a32, (fun_mk (st := s__law_word) l32 c32 k32).binds (ps := p__law_word) fun _ _ _ _ _ _ us hl => match us, hl with | [_], _ => rfl⟩
  have D__law_is_guesser : Df K mg "_law_is_guesser" s__law_is_guesser p__law_is_guesser f33 (PySem.W.fnOf "_law_is_guesser" "_law_is_guesser" (defArgs s__law_is_guesser) (defBody s__law_is_guesser) (defScope s__law_is_guesser) .none kV33 dc33 pm33 an33 cd33 ct33) := ⟨fun_mk (st := s__law_is_guesser) l33 c33 k33, PySem.W.mg_of X G a33, (fun_mk (st := s__law_is_guesser) l33 c33 k33).binds (ps := p__law_is_guesser) fun _ _ _ _ _ _ us hl => match us, hl with | [_, _], _ => rfl⟩
  have D__law_odd_guesser : Df K mg "_law_odd_guesser" s__law_odd_guesser p__law_odd_guesser f34 (PySem.W.fnOf "_law_odd_guesser" "_law_odd_guesser" (defArgs s__law_odd_guesser) (defBody s__law_odd_guesser) (defScope s__law_odd_guesser) .none kV34 dc34 pm34 an34 cd34 ct34) := ⟨fun_mk (st := s__law_odd_guesser) l34 c34 k34, PySem.W.mg_of X G a34, (fun_mk (st := s__law_odd_guesser) l34 c34 k34).binds (ps := p__law_odd_guesser) fun _ _ _ _ _ _ us hl => match us, hl with | [_], _ => rfl⟩
  have D__law_spoilt : Df K mg "_law_spoilt" s__law_spoilt p__law_spoilt f35 (PySem.W.fnOf "_law_spoilt" "_law_spoilt" (defArgs s__law_spoilt) (defBody s__law_spoilt) (defScope s__law_spoilt) .none kV35 dc35 pm35 an35 cd35 ct35) := ⟨fun_mk (st := s__law_spoilt) l35 c35 k35, PySem.W.mg_of X G a35, (fun_mk (st := s__law_spoilt) l35 c35 k35).binds (ps := p__law_spoilt) fun _ _ _ _ _ _ us hl => match us, hl with | [_, _], _ => rfl⟩
  have D__law_why : Df K mg "_law_why" s__law_why p__law_why f36 (PySem.W.fnOf "_law_why" "_law_why" (defArgs s__law_why) (defBody s__law_why) (defScope s__law_why) .none kV36 dc36 pm36 an36 cd36 ct36) := ⟨fun_mk (st := s__law_why) l36 c36 k36, PySem.W.mg_of X G a36, (fun_mk (st := s__law_why) l36 c36 k36).binds (ps := p__law_why) fun _ _ _ _ _ _ us hl => match us, hl with | [_], _ => rfl⟩
  have D__law_works : Df K mg "_law_works" s__law_works p__law_works f37 (PySem.W.fnOf "_law_works" "_law_works" (defArgs s__law_works) (defBody s__law_works) (defScope s__law_works) .none kV37 dc37 pm37 an37 (.ref cc37) ct37) := ⟨fun_mk (st := s__law_works) l37 c37 k37, PySem.W.mg_of X G a37, (fun_mk (st := s__law_works) l37 c37 k37).binds (ps := p__law_works) fun _ _ _ _ _ _ us hl => match us, hl with | [_, _, _, _], _ => rfl⟩
  have KC_House : ClassD K mg "House" C0 fm0 := ⟨PySem.W.mg_of X G aC0, ⟨mkC0, am0, im0, kcC0⟩, ⟨pgC0, hdC0, poC0, saC0⟩⟩
  have KC_Run : ClassD K mg "Run" C1 fm1 := ⟨PySem.W.mg_of X G aC1, ⟨mkC1, am1, im1, kcC1⟩, ⟨pgC1, hdC1, poC1, saC1⟩⟩
  have D_House___init__ : Mf K C0 "__init__" "House.__init__" s_House___init__ p_House___init__ fm0 (PySem.W.fnOf "__init__" "House.__init__" (defArgs s_House___init__) (defBody s_House___init__) (defScope s_House___init__) .none kVm0 dcm0 pmm0 anm0 cdm0 ctm0) := ⟨fun_mk (st := s_House___init__) lm0 cm0 km0, (fun_mk (st := s_House___init__) lm0 cm0 km0).binds (ps := p_House___init__) fun _ _ _ _ _ _ us hl => match us, hl with | [_, _], _ => rfl, ⟨am0, im0, km0⟩⟩
  have D_Run___init__ : Mf K C1 "__init__" "Run.__init__" s_Run___init__ p_Run___init__ fm1 (PySem.W.fnOf "__init__" "Run.__init__" (defArgs s_Run___init__) (defBody s_Run___init__) (defScope s_Run___init__) .none kVm1 dcm1 pmm1 anm1 cdm1 ctm1) := ⟨fun_mk (st := s_Run___init__) lm1 cm1 km1, (fun_mk (st := s_Run___init__) lm1 cm1 km1).binds (ps := p_Run___init__) fun _ _ _ _ _ _ us hl => match us, hl with | [_, _, _, _], _ => rfl, ⟨am1, im1, km1⟩⟩
  have D_Run_do_deed : Mf K C1 "do_deed" "Run.do_deed" s_Run_do_deed p_Run_do_deed fm2 (PySem.W.fnOf "do_deed" "Run.do_deed" (defArgs s_Run_do_deed) (defBody s_Run_do_deed) (defScope s_Run_do_deed) .none kVm2 dcm2 pmm2 anm2 cdm2 ctm2) := ⟨fun_mk (st := s_Run_do_deed) lm2 cm2 km2, (fun_mk (st := s_Run_do_deed) lm2 cm2 km2).binds (ps := p_Run_do_deed) fun _ _ _ _ _ _ us hl => match us, hl with | [_, _, _], _ => rfl, ⟨am2, im2, km2⟩⟩
  have D_Run_count : Mf K C1 "count" "Run.count" s_Run_count p_Run_count fm3 (PySem.W.fnOf "count" "Run.count" (defArgs s_Run_count) (defBody s_Run_count) (defScope s_Run_count) .none kVm3 dcm3 pmm3 anm3 cdm3 ctm3) := ⟨fun_mk (st := s_Run_count) lm3 cm3 km3, (fun_mk (st := s_Run_count) lm3 cm3 km3).binds (ps := p_Run_count) fun _ _ _ _ _ _ us hl => match us, hl with | [_, _], _ => rfl, ⟨am3, im3, km3⟩⟩
  have D_Run_counts : Mf K C1 "counts" "Run.counts" s_Run_counts p_Run_counts fm4 (PySem.W.fnOf "counts" "Run.counts" (defArgs s_Run_counts) (defBody s_Run_counts) (defScope s_Run_counts) .none kVm4 dcm4 pmm4 anm4 cdm4 ctm4) := ⟨fun_mk (st := s_Run_counts) lm4 cm4 km4, (fun_mk (st := s_Run_counts) lm4 cm4 km4).binds (ps := p_Run_counts) fun _ _ _ _ _ _ us hl => match us, hl with | [_], _ => rfl, ⟨am4, im4, km4⟩⟩
  have WC : WellC K mg E0 := ⟨PySem.W.mg_of X G aE0, exE0, hdE0, tyE0, rdE0, sgE0, PySem.W.mg_none_of X G nvE0, fcE0, hnE0, htE0⟩
  have XE_BadAsk : ErrX K mg "BadAsk" E1 E0 := ⟨PySem.W.mg_of X G aE1, kpE1, exE1, veE1, weE1, tyE1, hdE1, gaE1, ggE1, haE1, hmE1⟩
  have XP_BadAsk : ErrP K E1 := xpE1
  have XE_BadGuesser : ErrX K mg "BadGuesser" E2 E0 := ⟨PySem.W.mg_of X G aE2, kpE2, exE2, veE2, weE2, tyE2, hdE2, gaE2, ggE2, haE2, hmE2⟩
  have XP_BadGuesser : ErrP K E2 := xpE2
  have XE_BadRow : ErrX K mg "BadRow" E3 E0 := ⟨PySem.W.mg_of X G aE3, kpE3, exE3, veE3, weE3, tyE3, hdE3, gaE3, ggE3, haE3, hmE3⟩
  have XI_BadRow : ErrI K "number" E3 fE3 := ⟨⟨_, _, _, _, _, _, _, _, _, _, _, _, _, _, _, clE3, rvE3⟩, saE3, iCE3, tIE3, noE3⟩
  have D_BadRow___init__ : Ef K "BadRow.__init__" s_BadRow___init__ p_BadRow___init__ fE3 (PySem.W.fnOf "__init__" "BadRow.__init__" (defArgs s_BadRow___init__) (defBody s_BadRow___init__) (defScope s_BadRow___init__) .none kVE3 dcE3 pmE3 anE3 cdE3 ctE3) := ⟨(fun_mk (st := s_BadRow___init__) flE3 fcE3 fkE3), (fun_mk (st := s_BadRow___init__) flE3 fcE3 fkE3).binds (ps := p_BadRow___init__) fun _ _ _ _ _ _ us hl => match us, hl with | [_, _], _ => rfl⟩
  have XE_BadSetting : ErrX K mg "BadSetting" E4 E0 := ⟨PySem.W.mg_of X G aE4, kpE4, exE4, veE4, weE4, tyE4, hdE4, gaE4, ggE4, haE4, hmE4⟩
  have XI_BadSetting : ErrI K "word" E4 fE4 := ⟨⟨_, _, _, _, _, _, _, _, _, _, _, _, _, _, _, clE4, rvE4⟩, saE4, iCE4, tIE4, noE4⟩
  have D_BadSetting___init__ : Ef K "BadSetting.__init__" s_BadSetting___init__ p_BadSetting___init__ fE4 (PySem.W.fnOf "__init__" "BadSetting.__init__" (defArgs s_BadSetting___init__) (defBody s_BadSetting___init__) (defScope s_BadSetting___init__) .none kVE4 dcE4 pmE4 anE4 cdE4 ctE4) := ⟨(fun_mk (st := s_BadSetting___init__) flE4 fcE4 fkE4), (fun_mk (st := s_BadSetting___init__) flE4 fcE4 fkE4).binds (ps := p_BadSetting___init__) fun _ _ _ _ _ _ us hl => match us, hl with | [_, _], _ => rfl⟩
  have XE_BadText : ErrX K mg "BadText" E5 E0 := ⟨PySem.W.mg_of X G aE5, kpE5, exE5, veE5, weE5, tyE5, hdE5, gaE5, ggE5, haE5, hmE5⟩
  have XI_BadText : ErrI K "place" E5 fE5 := ⟨⟨_, _, _, _, _, _, _, _, _, _, _, _, _, _, _, clE5, rvE5⟩, saE5, iCE5, tIE5, noE5⟩
  have D_BadText___init__ : Ef K "BadText.__init__" s_BadText___init__ p_BadText___init__ fE5 (PySem.W.fnOf "__init__" "BadText.__init__" (defArgs s_BadText___init__) (defBody s_BadText___init__) (defScope s_BadText___init__) .none kVE5 dcE5 pmE5 anE5 cdE5 ctE5) := ⟨(fun_mk (st := s_BadText___init__) flE5 fcE5 fkE5), (fun_mk (st := s_BadText___init__) flE5 fcE5 fkE5).binds (ps := p_BadText___init__) fun _ _ _ _ _ _ us hl => match us, hl with | [_, _], _ => rfl⟩
  have W_BadAsk_BadAsk : Two K E1 E1 true := ⟨sb1_1, fun q => nomatch q⟩
  have W_BadAsk_BadGuesser : Two K E1 E2 false := ⟨sb1_2, fun q => ne1_2⟩
  have W_BadAsk_BadRow : Two K E1 E3 false := ⟨sb1_3, fun q => ne1_3⟩
  have W_BadAsk_BadSetting : Two K E1 E4 false := ⟨sb1_4, fun q => ne1_4⟩
  have W_BadAsk_BadText : Two K E1 E5 false := ⟨sb1_5, fun q => ne1_5⟩
  have W_BadGuesser_BadAsk : Two K E2 E1 false := ⟨sb2_1, fun q => ne2_1⟩
  have W_BadGuesser_BadGuesser : Two K E2 E2 true := ⟨sb2_2, fun q => nomatch q⟩
  have W_BadGuesser_BadRow : Two K E2 E3 false := ⟨sb2_3, fun q => ne2_3⟩
  have W_BadGuesser_BadSetting : Two K E2 E4 false := ⟨sb2_4, fun q => ne2_4⟩
  have W_BadGuesser_BadText : Two K E2 E5 false := ⟨sb2_5, fun q => ne2_5⟩
  have W_BadRow_BadAsk : Two K E3 E1 false := ⟨sb3_1, fun q => ne3_1⟩
  have W_BadRow_BadGuesser : Two K E3 E2 false := ⟨sb3_2, fun q => ne3_2⟩
  have W_BadRow_BadRow : Two K E3 E3 true := ⟨sb3_3, fun q => nomatch q⟩
  have W_BadRow_BadSetting : Two K E3 E4 false := ⟨sb3_4, fun q => ne3_4⟩
  have W_BadRow_BadText : Two K E3 E5 false := ⟨sb3_5, fun q => ne3_5⟩
  have W_BadSetting_BadAsk : Two K E4 E1 false := ⟨sb4_1, fun q => ne4_1⟩
  have W_BadSetting_BadGuesser : Two K E4 E2 false := ⟨sb4_2, fun q => ne4_2⟩
  have W_BadSetting_BadRow : Two K E4 E3 false := ⟨sb4_3, fun q => ne4_3⟩
  have W_BadSetting_BadSetting : Two K E4 E4 true := ⟨sb4_4, fun q => nomatch q⟩
  have W_BadSetting_BadText : Two K E4 E5 false := ⟨sb4_5, fun q => ne4_5⟩
  have I_SORTS : IDict K w d0 [("none", 1), ("next", 2), ("stride", 2), ("pairs", 2), ("both", 3)] := ⟨⟨es0, en0, ⟨ld0, li0, lo0⟩, by obtain ⟨_, _, _, _, _, _, _, _, _, _, e⟩ := ee0; rw [e]; exact (.cons ⟨⟨_, rfl⟩, ⟨_, rfl⟩⟩ (.cons ⟨⟨_, rfl⟩, ⟨_, rfl⟩⟩ (.cons ⟨⟨_, rfl⟩, ⟨_, rfl⟩⟩ (.cons ⟨⟨_, rfl⟩, ⟨_, rfl⟩⟩ (.cons ⟨⟨_, rfl⟩, ⟨_, rfl⟩⟩ .nil)))))⟩⟩
  have g_SORTS := PySem.W.mg_of X G ad0
  have I_MOST_OF : IDict K w d1 [("next", 3), ("stride", 3), ("pairs", 2)] := ⟨⟨es1, en1, ⟨ld1, li1, lo1⟩, by obtain ⟨_, _, _, _, _, _, e⟩ := ee1; rw [e]; exact (.cons ⟨⟨_, rfl⟩, ⟨_, rfl⟩⟩ (.cons ⟨⟨_, rfl⟩, ⟨_, rfl⟩⟩ (.cons ⟨⟨_, rfl⟩, ⟨_, rfl⟩⟩ .nil)))⟩⟩
  have g_MOST_OF := PySem.W.mg_of X G ad1
  have g_MOST_WITHIN : ∃ t, mg "MOST_WITHIN" = some (.int 3 t) := ⟨_, PySem.W.mg_of X G ai0⟩
  have g_MOST_PLACES : ∃ t, mg "MOST_PLACES" = some (.int 32 t) := ⟨_, PySem.W.mg_of X G ai1⟩
  have g_MOST_NUMBER : ∃ t, mg "MOST_NUMBER" = some (.int 99 t) := ⟨_, PySem.W.mg_of X G ai2⟩
  have g_MOST_ROOM : ∃ t, mg "MOST_ROOM" = some (.int 8 t) := ⟨_, PySem.W.mg_of X G ai3⟩
  have g_MOST_LATE : ∃ t, mg "MOST_LATE" = some (.int 4 t) := ⟨_, PySem.W.mg_of X G ai4⟩
  have g_MOST_WAY : ∃ t, mg "MOST_WAY" = some (.int 4 t) := ⟨_, PySem.W.mg_of X G ai5⟩
  have g_MOST_DEEDS : ∃ t, mg "MOST_DEEDS" = some (.int 100 t) := ⟨_, PySem.W.mg_of X G ai6⟩
  have g_MOST_WEIGHT : ∃ t, mg "MOST_WEIGHT" = some (.int 9 t) := ⟨_, PySem.W.mg_of X G ai7⟩
  have g_MOST_GUESSERS : ∃ t, mg "MOST_GUESSERS" = some (.int 8 t) := ⟨_, PySem.W.mg_of X G ai8⟩
  have g_MOST_ASKED : ∃ t, mg "MOST_ASKED" = some (.int 4 t) := ⟨_, PySem.W.mg_of X G ai9⟩
  have g_MOST_LENGTH : ∃ t, mg "MOST_LENGTH" = some (.int 7 t) := ⟨_, PySem.W.mg_of X G ai10⟩
  have g_MOST_ROWS : ∃ t, mg "MOST_ROWS" = some (.int 1024 t) := ⟨_, PySem.W.mg_of X G ai11⟩
  have T : Nms mg := ⟨PySem.W.mg_none_of X G z0, PySem.W.mg_none_of X G z1, PySem.W.mg_none_of X G z2, PySem.W.mg_none_of X G z3, PySem.W.mg_none_of X G z4, PySem.W.mg_none_of X G z5, PySem.W.mg_none_of X G z6, PySem.W.mg_none_of X G z7, PySem.W.mg_none_of X G z8, PySem.W.mg_none_of X G z9, PySem.W.mg_none_of X G z10, PySem.W.mg_none_of X G z11, PySem.W.mg_none_of X G z12, PySem.W.mg_none_of X G z13, PySem.W.mg_none_of X G z14, PySem.W.mg_none_of X G z15⟩
  have FC__law_works : FunC K "_law_works" "_law_works" s__law_works f37 cc37 (PySem.W.fnOf "_law_works" "_law_works" (defArgs s__law_works) (defBody s__law_works) (defScope s__law_works) .none kV37 dc37 pm37 an37 (.ref cc37) ct37) := ⟨⟨_, _, _, _, _, _, _, _, rfl, l37, c37⟩, k37⟩
  have FC_law : FunC K "law" "law" s_law fa cc38 (PySem.W.fnOf "law" "law" (defArgs s_law) (defBody s_law) (defScope s_law) .none kV38 dc38 pm38 an38 (.ref cc38) ct38) := ⟨⟨_, _, _, _, _, _, _, _, rfl, l38, c38⟩, k38⟩
  have hm__law_works : (Pc37, ("_law_works.<locals>." : Str) ++ "<lambda>") ∈ ([(Pc37, ("_law_works.<locals>." : Str) ++ "<lambda>"), (Pc38, ("law.<locals>." : Str) ++ "<lambda>")] : List (Addr × Str)) := .head _
  have hu__law_works : ∀ q ∈ ([(Pc37, ("_law_works.<locals>." : Str) ++ "<lambda>"), (Pc38, ("law.<locals>." : Str) ++ "<lambda>")] : List (Addr × Str)), q.1 = Pc37 → q.2 = ("_law_works.<locals>." : Str) ++ "<lambda>" := by
    intro q hq e
    simp only [List.mem_cons, List.not_mem_nil, or_false] at hq
    rcases hq with rfl | rfl
    · rfl
    · exact absurd e nP38_37
  have hm_law : (Pc38, ("law.<locals>." : Str) ++ "<lambda>") ∈ ([(Pc37, ("_law_works.<locals>." : Str) ++ "<lambda>"), (Pc38, ("law.<locals>." : Str) ++ "<lambda>")] : List (Addr × Str)) := .tail _ (.head _)
  have hu_law : ∀ q ∈ ([(Pc37, ("_law_works.<locals>." : Str) ++ "<lambda>"), (Pc38, ("law.<locals>." : Str) ++ "<lambda>")] : List (Addr × Str)), q.1 = Pc38 → q.2 = ("law.<locals>." : Str) ++ "<lambda>" := by
    intro q hq e
    simp only [List.mem_cons, List.not_mem_nil, or_false] at hq
    rcases hq with rfl | rfl
    · exact absurd e nP37_38
    · rfl
  refine ⟨PySem.W.fnOf "law" "law" (defArgs s_law) (defBody s_law) (defScope s_law) .none kV38 dc38 pm38 an38 (.ref cc38) ct38, [(cc37, Pc37), (cc38, Pc38)], spLawQ K [(Pc37, ("_law_works.<locals>." : Str) ++ "<lambda>"), (Pc38, ("law.<locals>." : Str) ++ "<lambda>")], fun p hp => by
    simp only [List.mem_cons, List.not_mem_nil, or_false] at hp
    rcases hp with rfl | rfl
    · exact tcc37
    · exact tcc38, fun p hp => by
    simp only [List.mem_cons, List.not_mem_nil, or_false] at hp
    rcases hp with rfl | rfl
    · exact Option.isNone_iff_eq_none.mp ncc37
    · exact Option.isNone_iff_eq_none.mp ncc38, fun p hp => by
    simp only [List.mem_cons, List.not_mem_nil, or_false] at hp
    rcases hp with rfl | rfl
    · exact PySem.W.codeHd_of_K X hcc37
    · exact PySem.W.codeHd_of_K X hcc38, fun s v => .of_eq rfl, fun H a ns _ _ hH hS => ⟨a, ns, rfl, hS, ?_, fun _ => rfl⟩, fun base _ _ hTB => ?_⟩
  · intro p hp
    simp only [List.mem_cons, List.not_mem_nil, or_false] at hp
    rcases hp with rfl | rfl
    · exact LamX.TabS.nil (hH (cc37, Pc37) (by simp))
    · exact LamX.TabS.nil (hH (cc38, Pc38) (by simp))
  · have TB37 : LamX.TabB base mg cc37 Pc37 := hTB (cc37, Pc37) (by simp)
    have TB38 : LamX.TabB base mg cc38 Pc38 := hTB (cc38, Pc38) (by simp)
    exact ok_all (ec := ⟨E1, E3, E2, E4⟩) ⟨T, ⟨g_SORTS, I_SORTS, g_MOST_OF, I_MOST_OF, g_MOST_WITHIN⟩, ⟨g_MOST_PLACES, g_MOST_NUMBER, g_MOST_ROOM, g_MOST_LATE, g_MOST_WAY, g_MOST_DEEDS⟩, D_is_guesser, D_need_guesser, D_need_setting, D_is_deed, D_need_row, D_need_all⟩
      ⟨T, ⟨KC_House.cl, nat_House_places, nat_House_room, nat_House_late, nat_House_most⟩, KC_House, KC_Run, ⟨nat_Run_house, nat_Run_guesser, nat_Run_cells, nat_Run_lies, nat_Run_answers, nat_Run_rows, nat_Run_state⟩, D_House___init__, D_laid, D_come, D_asked, D_started, D_strided, D_paired, D_stepped, D_gone_on, D_first_state, D_begun, D_Run_do_deed, D_Run___init__⟩
      ⟨D_Run_count, D_Run_counts, D_idle_in, D_need_weights, D_weighed, g_MOST_WEIGHT⟩
      ⟨T, ⟨g_SORTS, I_SORTS, g_MOST_OF, I_MOST_OF, g_MOST_WITHIN⟩, ⟨g_MOST_PLACES, g_MOST_NUMBER, g_MOST_ROOM, g_MOST_LATE, g_MOST_WAY, g_MOST_DEEDS⟩, ⟨g_MOST_ASKED, g_MOST_LENGTH, g_MOST_ROWS⟩, g_MOST_WEIGHT, ⟨KC_House.cl, nat_House_places, nat_House_room, nat_House_late, nat_House_most⟩, KC_House, D_House___init__, D_is_guesser, D_need_guesser, D_need_setting, D_need_weights, D_need_rows, D_laid, D_come, D_asked, D_started, D_strided, D_paired, D_stepped, D_gone_on, D_first_state, D_begun, D_turn_cost, D_both_behind, D_idle_in⟩
      g_MOST_GUESSERS ⟨WC, XE_BadSetting, XI_BadSetting, D_BadSetting___init__, XE_BadGuesser, XP_BadGuesser, XE_BadAsk, XP_BadAsk⟩ ⟨WC, XE_BadRow, XI_BadRow, D_BadRow___init__, XE_BadAsk, XP_BadAsk⟩
      ⟨WC, XE_BadAsk, XE_BadGuesser, XE_BadRow, XE_BadSetting, XE_BadText, XI_BadRow, XI_BadSetting, XI_BadText, W_BadAsk_BadAsk, W_BadAsk_BadGuesser, W_BadAsk_BadRow, W_BadAsk_BadSetting, W_BadAsk_BadText, W_BadGuesser_BadAsk, W_BadGuesser_BadGuesser, W_BadGuesser_BadRow, W_BadGuesser_BadSetting, W_BadGuesser_BadText, W_BadRow_BadAsk, W_BadRow_BadGuesser, W_BadRow_BadRow, W_BadRow_BadSetting, W_BadRow_BadText, W_BadSetting_BadAsk, W_BadSetting_BadGuesser, W_BadSetting_BadRow, W_BadSetting_BadSetting, W_BadSetting_BadText⟩
      D_run D_story D_cost D_held D_worst D_guesses D_written D_words_of D__law_taken D__law_setting D__law_odd_guesser D__law_spoilt D__law_why D__law_is_guesser D__law_works D__law_word
      FC__law_works TB37 TB38 hm__law_works hm_law hu__law_works hu_law FC_law
end St
open PySem PySem.W PyProof.Rows
set_option maxHeartbeats 0 in
theorem PySem.Challenge.cw_stridewell_k01_settings_and_guessers_ref_holds : PySem.Challenge.rw_stridewell_k01_settings_and_guessers_ref.Holds := by
  w_on; o_law; k_head; (case hw => w_witness2)
  k_fill
  refine LamX.walk_ofTs (l := PySem.Challenge.rw_stridewell_k01_settings_and_guessers_ref) (n := 63) (k := 16) (x := "_law_script") (CX := fun _ => L2.CX0) rfl (by decide) rfl ⟨rfl, by decide, by decide⟩ (fun w h Y => PySem.W.km_in_of Y) ?F (fun _ _ _ _ _ h => h)
  case F =>
    intro w mg fa h Y KX G hmg
    refine' St.all_mk KX G hmg ?a0 ?l0 ?c0 ?k0 ?a1 ?l1 ?c1 ?k1 ?a2 ?l2 ?c2 ?k2 ?a3 ?l3 ?c3 ?k3 ?a4 ?l4 ?c4 ?k4 ?a5 ?l5 ?c5 ?k5 ?a6 ?l6 ?c6 ?k6 ?a7 ?l7 ?c7 ?k7 ?a8 ?l8 ?c8 ?k8 ?a9 ?l9 ?c9 ?k9 ?a10 ?l10 ?c10 ?k10 ?a11 ?l11 ?c11 ?k11 ?a12 ?l12 ?c12 ?k12 ?a13 ?l13 ?c13 ?k13 ?a14 ?l14 ?c14 ?k14 ?a15 ?l15 ?c15 ?k15 ?a16 ?l16 ?c16 ?k16 ?a17 ?l17 ?c17 ?k17 ?a18 ?l18 ?c18 ?k18 ?a19 ?l19 ?c19 ?k19 ?a20 ?l20 ?c20 ?k20 ?a21 ?l21 ?c21 ?k21 ?a22 ?l22 ?c22 ?k22 ?a23 ?l23 ?c23 ?k23 ?a24 ?l24 ?c24 ?k24 ?a25 ?l25 ?c25 ?k25 ?a26 ?l26 ?c26 ?k26 ?a27 ?l27 ?c27 ?k27 ?a28 ?l28 ?c28 ?k28 ?a29 ?l29 ?c29 ?k29 ?a30 ?l30 ?c30 ?k30 ?a31 ?l31 ?c31 ?k31 ?a32 ?l32 ?c32 ?k32 ?a33 ?l33 ?c33 ?k33 ?a34 ?l34 ?c34 ?k34 ?a35 ?l35 ?c35 ?k35 ?a36 ?l36 ?c36 ?k36 ?a37 ?l37 ?c37 ?k37 ?a38 ?l38 ?c38 ?k38 ?aC0 ?pgC0 ?hdC0 ?poC0 ?saC0 ?mkC0 ?kcC0 ?nat_House_places ?nat_House_room ?nat_House_late ?nat_House_most ?aC1 ?pgC1 ?hdC1 ?poC1 ?saC1 ?mkC1 ?kcC1 ?nat_Run_house ?nat_Run_guesser ?nat_Run_cells ?nat_Run_lies ?nat_Run_answers ?nat_Run_rows ?nat_Run_state ?am0 ?im0 ?lm0 ?cm0 ?km0 ?am1 ?im1 ?lm1 ?cm1 ?km1 ?am2 ?im2 ?lm2 ?cm2 ?km2 ?am3 ?im3 ?lm3 ?cm3 ?km3 ?am4 ?im4 ?lm4 ?cm4 ?km4 ?aE0 ?exE0 ?hdE0 ?tyE0 ?rdE0 ?sgE0 ?nvE0 ?fcE0 ?hnE0 ?htE0 ?aE1 ?kpE1 ?exE1 ?veE1 ?weE1 ?tyE1 ?hdE1 ?gaE1 ?ggE1 ?haE1 ?hmE1 ?xpE1 ?aE2 ?kpE2 ?exE2 ?veE2 ?weE2 ?tyE2 ?hdE2 ?gaE2 ?ggE2 ?haE2 ?hmE2 ?xpE2 ?aE3 ?kpE3 ?exE3 ?veE3 ?weE3 ?tyE3 ?hdE3 ?gaE3 ?ggE3 ?haE3 ?hmE3 ?clE3 ?rvE3 ?saE3 ?iCE3 ?tIE3 ?noE3 ?flE3 ?fcE3 ?fkE3 ?aE4 ?kpE4 ?exE4 ?veE4 ?weE4 ?tyE4 ?hdE4 ?gaE4 ?ggE4 ?haE4 ?hmE4 ?clE4 ?rvE4 ?saE4 ?iCE4 ?tIE4 ?noE4 ?flE4 ?fcE4 ?fkE4 ?aE5 ?kpE5 ?exE5 ?veE5 ?weE5 ?tyE5 ?hdE5 ?gaE5 ?ggE5 ?haE5 ?hmE5 ?clE5 ?rvE5 ?saE5 ?iCE5 ?tIE5 ?noE5 ?flE5 ?fcE5 ?fkE5 ?sb1_1 ?sb1_2 ?ne1_2 ?sb1_3 ?ne1_3 ?sb1_4 ?ne1_4 ?sb1_5 ?ne1_5 ?sb2_1 ?ne2_1 ?sb2_2 ?sb2_3 ?ne2_3 ?sb2_4 ?ne2_4 ?sb2_5 ?ne2_5 ?sb3_1 ?ne3_1 ?sb3_2 ?ne3_2 ?sb3_3 ?sb3_4 ?ne3_4 ?sb3_5 ?ne3_5 ?sb4_1 ?ne4_1 ?sb4_2 ?ne4_2 ?sb4_3 ?ne4_3 ?sb4_4 ?sb4_5 ?ne4_5 ?ad0 ?ld0 ?lo0 ?li0 ?ee0 ?ad1 ?ld1 ?lo1 ?li1 ?ee1 ?ai0 ?ai1 ?ai2 ?ai3 ?ai4 ?ai5 ?ai6 ?ai7 ?ai8 ?ai9 ?ai10 ?ai11 ?z0 ?z1 ?z2 ?z3 ?z4 ?z5 ?z6 ?z7 ?z8 ?z9 ?z10 ?z11 ?z12 ?z13 ?z14 ?z15 ?lcc37 ?pcc37 ?hcc37 ?ncc37 ?tcc37 ?lcc38 ?pcc38 ?hcc38 ?ncc38 ?tcc38 ?nP37_38 ?nP38_37
    (case a0 => k_is); (case l0 => k_is); (case c0 => k_is); (case k0 => k_is); (case a1 => k_is); (case l1 => k_is)
    (case c1 => k_is); (case k1 => k_is); (case a2 => k_is); (case l2 => k_is); (case c2 => k_is); (case k2 => k_is)
    (case a3 => k_is); (case l3 => k_is); (case c3 => k_is); (case k3 => k_is); (case a4 => k_is); (case l4 => k_is)
    (case c4 => k_is); (case k4 => k_is); (case a5 => k_is); (case l5 => k_is); (case c5 => k_is); (case k5 => k_is)
    (case a6 => k_is); (case l6 => k_is); (case c6 => k_is); (case k6 => k_is); (case a7 => k_is); (case l7 => k_is)
    (case c7 => k_is); (case k7 => k_is); (case a8 => k_is); (case l8 => k_is); (case c8 => k_is); (case k8 => k_is)
    (case a9 => k_is); (case l9 => k_is); (case c9 => k_is); (case k9 => k_is); (case a10 => k_is); (case l10 => k_is)
    (case c10 => k_is); (case k10 => k_is); (case a11 => k_is); (case l11 => k_is); (case c11 => k_is); (case k11 => k_is)
    (case a12 => k_is); (case l12 => k_is); (case c12 => k_is); (case k12 => k_is); (case a13 => k_is); (case l13 => k_is)
    (case c13 => k_is); (case k13 => k_is); (case a14 => k_is); (case l14 => k_is); (case c14 => k_is); (case k14 => k_is)
    (case a15 => k_is); (case l15 => k_is); (case c15 => k_is); (case k15 => k_is); (case a16 => k_is); (case l16 => k_is)
    (case c16 => k_is); (case k16 => k_is); (case a17 => k_is); (case l17 => k_is); (case c17 => k_is); (case k17 => k_is)
    (case a18 => k_is); (case l18 => k_is); (case c18 => k_is); (case k18 => k_is); (case a19 => k_is); (case l19 => k_is)
    (case c19 => k_is); (case k19 => k_is); (case a20 => k_is); (case l20 => k_is); (case c20 => k_is); (case k20 => k_is)
    (case a21 => k_is); (case l21 => k_is); (case c21 => k_is); (case k21 => k_is); (case a22 => k_is); (case l22 => k_is)
    (case c22 => k_is); (case k22 => k_is); (case a23 => k_is); (case l23 => k_is); (case c23 => k_is); (case k23 => k_is)
    (case a24 => k_is); (case l24 => k_is); (case c24 => k_is); (case k24 => k_is); (case a25 => k_is); (case l25 => k_is)
    (case c25 => k_is); (case k25 => k_is); (case a26 => k_is); (case l26 => k_is); (case c26 => k_is); (case k26 => k_is)
    (case a27 => k_is); (case l27 => k_is); (case c27 => k_is); (case k27 => k_is); (case a28 => k_is); (case l28 => k_is)
    (case c28 => k_is); (case k28 => k_is); (case a29 => k_is); (case l29 => k_is); (case c29 => k_is); (case k29 => k_is)
    (case a30 => k_is); (case l30 => k_is); (case c30 => k_is); (case k30 => k_is); (case a31 => k_is); (case l31 => k_is)
    (case c31 => k_is); (case k31 => k_is); (case a32 => k_is); (case l32 => k_is); (case c32 => k_is); (case k32 => k_is)
    (case a33 => k_is); (case l33 => k_is); (case c33 => k_is); (case k33 => k_is); (case a34 => k_is); (case l34 => k_is)
    (case c34 => k_is); (case k34 => k_is); (case a35 => k_is); (case l35 => k_is); (case c35 => k_is); (case k35 => k_is)
    (case a36 => k_is); (case l36 => k_is); (case c36 => k_is); (case k36 => k_is); (case a37 => k_is); (case l37 => k_is)
    (case c37 => k_is); (case k37 => k_is); (case a38 => k_is); (case l38 => k_is); (case c38 => k_is); (case k38 => k_is)
    (case aC0 => k_is); (case pgC0 => k_is); (case hdC0 => k_is); (case poC0 => k_is); (case saC0 => k_is); (case mkC0 => k_is)
    (case kcC0 => k_is); (case nat_House_places => k_is); (case nat_House_room => k_is); (case nat_House_late => k_is); (case nat_House_most => k_is); (case aC1 => k_is)
    (case pgC1 => k_is); (case hdC1 => k_is); (case poC1 => k_is); (case saC1 => k_is); (case mkC1 => k_is); (case kcC1 => k_is)
    (case nat_Run_house => k_is); (case nat_Run_guesser => k_is); (case nat_Run_cells => k_is); (case nat_Run_lies => k_is); (case nat_Run_answers => k_is); (case nat_Run_rows => k_is)
    (case nat_Run_state => k_is); (case am0 => k_is); (case im0 => k_is); (case lm0 => k_is); (case cm0 => k_is); (case km0 => k_is)
    (case am1 => k_is); (case im1 => k_is); (case lm1 => k_is); (case cm1 => k_is); (case km1 => k_is); (case am2 => k_is)
    (case im2 => k_is); (case lm2 => k_is); (case cm2 => k_is); (case km2 => k_is); (case am3 => k_is); (case im3 => k_is)
    (case lm3 => k_is); (case cm3 => k_is); (case km3 => k_is); (case am4 => k_is); (case im4 => k_is); (case lm4 => k_is)
    (case cm4 => k_is); (case km4 => k_is); (case aE0 => k_is); (case exE0 => k_is); (case hdE0 => k_is); (case tyE0 => k_is)
    (case rdE0 => k_is); (case sgE0 => k_is); (case nvE0 => k_is); (case fcE0 => first | k_is | decide +kernel); (case hnE0 => first | k_is | decide +kernel); (case htE0 => first | k_is | decide +kernel)
    (case aE1 => k_is); (case kpE1 => k_is); (case exE1 => k_is); (case veE1 => k_is); (case weE1 => k_is); (case tyE1 => k_is)
    (case hdE1 => k_is); (case gaE1 => k_is); (case ggE1 => k_is); (case haE1 => k_is); (case hmE1 => k_is); (case xpE1 => k_exc)
    (case aE2 => k_is); (case kpE2 => k_is); (case exE2 => k_is); (case veE2 => k_is); (case weE2 => k_is); (case tyE2 => k_is)
    (case hdE2 => k_is); (case gaE2 => k_is); (case ggE2 => k_is); (case haE2 => k_is); (case hmE2 => k_is); (case xpE2 => k_exc)
    (case aE3 => k_is); (case kpE3 => k_is); (case exE3 => k_is); (case veE3 => k_is); (case weE3 => k_is); (case tyE3 => k_is)
    (case hdE3 => k_is); (case gaE3 => k_is); (case ggE3 => k_is); (case haE3 => k_is); (case hmE3 => k_is); (case clE3 => k_is)
    (case rvE3 => decide +kernel); (case saE3 => k_is); (case iCE3 => k_is); (case tIE3 => k_is); (case noE3 => k_is); (case flE3 => k_is)
    (case fcE3 => k_is); (case fkE3 => k_is); (case aE4 => k_is); (case kpE4 => k_is); (case exE4 => k_is); (case veE4 => k_is)
    (case weE4 => k_is); (case tyE4 => k_is); (case hdE4 => k_is); (case gaE4 => k_is); (case ggE4 => k_is); (case haE4 => k_is)
    (case hmE4 => k_is); (case clE4 => k_is); (case rvE4 => decide +kernel); (case saE4 => k_is); (case iCE4 => k_is); (case tIE4 => k_is)
    (case noE4 => k_is); (case flE4 => k_is); (case fcE4 => k_is); (case fkE4 => k_is); (case aE5 => k_is); (case kpE5 => k_is)
    (case exE5 => k_is); (case veE5 => k_is); (case weE5 => k_is); (case tyE5 => k_is); (case hdE5 => k_is); (case gaE5 => k_is)
    (case ggE5 => k_is); (case haE5 => k_is); (case hmE5 => k_is); (case clE5 => k_is); (case rvE5 => decide +kernel); (case saE5 => k_is)
    (case iCE5 => k_is); (case tIE5 => k_is); (case noE5 => k_is); (case flE5 => k_is); (case fcE5 => k_is); (case fkE5 => k_is)
    (case sb1_1 => k_is); (case sb1_2 => k_is); (case ne1_2 => decide); (case sb1_3 => k_is); (case ne1_3 => decide); (case sb1_4 => k_is)
    (case ne1_4 => decide); (case sb1_5 => k_is); (case ne1_5 => decide); (case sb2_1 => k_is); (case ne2_1 => decide); (case sb2_2 => k_is)
    (case sb2_3 => k_is); (case ne2_3 => decide); (case sb2_4 => k_is); (case ne2_4 => decide); (case sb2_5 => k_is); (case ne2_5 => decide)
    (case sb3_1 => k_is); (case ne3_1 => decide); (case sb3_2 => k_is); (case ne3_2 => decide); (case sb3_3 => k_is); (case sb3_4 => k_is)
    (case ne3_4 => decide); (case sb3_5 => k_is); (case ne3_5 => decide); (case sb4_1 => k_is); (case ne4_1 => decide); (case sb4_2 => k_is)
    (case ne4_2 => decide); (case sb4_3 => k_is); (case ne4_3 => decide); (case sb4_4 => k_is); (case sb4_5 => k_is); (case ne4_5 => decide)
    (case ad0 => k_is); (case ld0 => k_is); (case lo0 => decide); (case li0 => exact ⟨⟨_, _, rfl, rfl⟩, ⟨_, _, rfl, rfl⟩, ⟨_, _, rfl, rfl⟩, ⟨_, _, rfl, rfl⟩, ⟨_, _, rfl, rfl⟩, True.intro⟩); (case ee0 => exact ⟨_, _, _, _, _, _, _, _, _, _, rfl⟩); (case ad1 => k_is)
    (case ld1 => k_is); (case lo1 => decide); (case li1 => exact ⟨⟨_, _, rfl, rfl⟩, ⟨_, _, rfl, rfl⟩, ⟨_, _, rfl, rfl⟩, True.intro⟩); (case ee1 => exact ⟨_, _, _, _, _, _, rfl⟩); (case ai0 => k_is); (case ai1 => k_is)
    (case ai2 => k_is); (case ai3 => k_is); (case ai4 => k_is); (case ai5 => k_is); (case ai6 => k_is); (case ai7 => k_is)
    (case ai8 => k_is); (case ai9 => k_is); (case ai10 => k_is); (case ai11 => k_is); (case z0 => k_is); (case z1 => k_is)
    (case z2 => k_is); (case z3 => k_is); (case z4 => k_is); (case z5 => k_is); (case z6 => k_is); (case z7 => k_is)
    (case z8 => k_is); (case z9 => k_is); (case z10 => k_is); (case z11 => k_is); (case z12 => k_is); (case z13 => k_is)
    (case z14 => k_is); (case z15 => k_is); (case lcc37 => k_is); (case pcc37 => rfl); (case hcc37 => kernel_rfl); (case ncc37 => kernel_rfl)
    (case tcc37 => exact PySem.W.km_tabs_of Y _ (by k_mem)); (case lcc38 => k_is); (case pcc38 => rfl); (case hcc38 => kernel_rfl); (case ncc38 => kernel_rfl); (case tcc38 => exact PySem.W.km_tabs_of Y _ (by k_mem))
    (case nP37_38 => decide); (case nP38_37 => decide)

