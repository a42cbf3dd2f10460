import PyProof.Rows.All
import Wide.All
import OpenK.AllK
import Wide.FinOn
import HandS.ForMost
import HandS.IsInst
import HandS.RaiseMore
import HandS.More
import PySem.Challenge.RW_stridewell_k12_written_and_read
set_option Elab.async false
set_option linter.all false
set_option maxRecDepth 100000
namespace St
open PySem PySem.Spec PyProof.Rows L2
/-! ### a def of the text with its name and how its arguments bind -/
structure Df (K : PySem.W.Frag) (mg : Str → Option Value) (x : Str) (st : Stmt) (ps : List Str) (f : Addr) (fd : FuncData) : Prop where
  F : Fun K x x st f fd
  m : mg x = some (.ref f)
  b : Binds K fd ps []
/-- the built-ins' names are free -/
structure Nms (mg : Str → Option Value) : Prop where
  n_len : mg "len" = none
  n_range : mg "range" = none
  n_int : mg "int" = none
  n_str : mg "str" = none
  n_bool : mg "bool" = none
  n_tuple : mg "tuple" = none
  n_list : mg "list" = none
  n_isinstance : mg "isinstance" = none
  n_max : mg "max" = none
  n_min : mg "min" = none
  n_sum : mg "sum" = none
  n_sorted : mg "sorted" = none
  n_dict : mg "dict" = none
  n_set : mg "set" = none
  n_zip : mg "zip" = none
  n_enumerate : mg "enumerate" = none
/-! ### heaps -/
theorem same_upd {H : Hp} {p : Addr} {o : HO} (h : H p = none) : Same H (upd H p o) := fun b x e => by
  rw [upd_ne (ne_of_none e h)]
  exact e
/-- an object that H does not know may change -/
theorem same_mut {H H' : Hp} {p : Addr} {o : HO} (e : Same H H') (h : H p = none) : Same H (upd H' p o) := fun a u ha => by
  rw [upd_ne (ne_of_none ha h)]
  exact e a u ha
theorem same_rd {H H' : Hp} {a : Addr} {u : HO} (e : Same H H') (h : Rd H a u) : Rd H' a u := by
  rcases h with h | ⟨o, h⟩
  · exact Or.inl (e a _ h)
  · exact Or.inr ⟨o, e a _ h⟩
theorem same_t {K : PySem.W.Frag} {H H' : Hp} {a : Addr} {xs : List V} (e : Same H H') (h : SqT K H a xs) : SqT K H' a xs := by
  rcases h with h | h
  · exact Or.inl (same_rd e h)
  · exact Or.inr h
theorem same_l {K : PySem.W.Frag} {H H' : Hp} {a : Addr} {xs : List V} (e : Same H H') (h : SqL K H a xs) : SqL K H' a xs := e.seq h
theorem sql {K : PySem.W.Frag} {H : Hp} {a : Addr} {xs : List V} (h : H a = some (.lst xs)) : SqL K H a xs := Or.inl (Or.inl h)
theorem sqt {K : PySem.W.Frag} {H : Hp} {a : Addr} {xs : List V} (h : H a = some (.tup xs)) : SqT K H a xs := Or.inl (Or.inl h)
theorem sz {n : Nat} (h : n ≤ 1000000) : n ≤ sizeLine := Nat.le_trans h (by decide)
theorem szl {n : Nat} (h : n < 1000000) : n < sizeLine := Nat.lt_of_lt_of_le h (by decide)
theorem sz_1 {a0 : V} : [a0].length ≤ sizeLine := by show 1 ≤ sizeLine; decide
theorem sz_2 {a0 a1 : V} : [a0, a1].length ≤ sizeLine := by show 2 ≤ sizeLine; decide
theorem sz_3 {a0 a1 a2 : V} : [a0, a1, a2].length ≤ sizeLine := by show 3 ≤ sizeLine; decide
theorem sz_4 {a0 a1 a2 a3 : V} : [a0, a1, a2, a3].length ≤ sizeLine := by show 4 ≤ sizeLine; decide
theorem sz_5 {a0 a1 a2 a3 a4 : V} : [a0, a1, a2, a3, a4].length ≤ sizeLine := by show 5 ≤ sizeLine; decide
theorem sz_6 {a0 a1 a2 a3 a4 a5 : V} : [a0, a1, a2, a3, a4, a5].length ≤ sizeLine := by show 6 ≤ sizeLine; decide
theorem sz_7 {a0 a1 a2 a3 a4 a5 a6 : V} : [a0, a1, a2, a3, a4, a5, a6].length ≤ sizeLine := by show 7 ≤ sizeLine; decide
theorem sz_8 {a0 a1 a2 a3 a4 a5 a6 a7 : V} : [a0, a1, a2, a3, a4, a5, a6, a7].length ≤ sizeLine := by show 8 ≤ sizeLine; decide
/-- all but r is as it was -/
def SameX (r : Addr) (H H' : Hp) : Prop := ∀ b o, b ≠ r → H b = some o → H' b = some o
theorem SameX.refl (r : Addr) (H : Hp) : SameX r H H := fun _ _ _ h => h
theorem SameX.trans {r : Addr} {H H1 H2 : Hp} (a : SameX r H H1) (b : SameX r H1 H2) : SameX r H H2 := fun c o n h => b c o n (a c o n h)
theorem SameX.of {r : Addr} {H H' : Hp} (a : Same H H') : SameX r H H' := fun c o _ h => a c o h
theorem SameX.upd {r : Addr} {H : Hp} {o : HO} : SameX r H (upd H r o) := fun c u n h => by
  rw [upd_ne n]
  exact h
theorem SameX.rd {r : Addr} {H H' : Hp} {a : Addr} {u : HO} (e : SameX r H H') (n : a ≠ r) (h : Rd H a u) : Rd H' a u := by
  rcases h with h | ⟨o, h⟩
  · exact Or.inl (e a _ n h)
  · exact Or.inr ⟨o, e a _ n h⟩
/-- r is a list: no tuple lies there -/
def LstAt (H : Hp) (r : Addr) : Prop := ∃ xs, H r = some (.lst xs)
theorem ne_tup {H : Hp} {a r : Addr} {xs : List V} (h : Rd H a (.tup xs)) (l : LstAt H r) : a ≠ r := by
  obtain ⟨ys, l⟩ := l
  intro e
  subst e
  rcases h with h | ⟨o, h⟩
  · rw [l] at h; cases h
  · rw [l] at h; cases h
theorem SameX.t {K : PySem.W.Frag} {r : Addr} {H H' : Hp} {a : Addr} {xs : List V} (e : SameX r H H') (l : LstAt H r) (h : SqT K H a xs) : SqT K H' a xs := by
  rcases h with h | h
  · exact Or.inl (e.rd (ne_tup h l) h)
  · exact Or.inr h
/-! ### kinds of values -/
theorem tyx_T {K : PySem.W.Frag} {H : Hp} {a : Addr} {xs : List V} (h : SqT K H a xs) : TyX K H (.ref a) (.type "tuple") := by
  rcases h with (h | ⟨o, h⟩) | ⟨o, its, n, h, c, _⟩
  · exact .base (.tup h)
  · exact .fTuple h
  · exact .kTuple h c
theorem tyx_L {K : PySem.W.Frag} {H : Hp} {a : Addr} {xs : List V} (h : SqL K H a xs) : TyX K H (.ref a) (.type "list") := by
  rcases h with (h | ⟨o, h⟩) | ⟨o, its, n, h, c, _⟩
  · exact .base (.lst h)
  · exact .base (.frz h)
  · exact .kList h c
/-! ### guessers -/
inductive G where
  | nil
  | leaf (w : Str) (ns : List Int)
  | b1 (a : G)
  | both (a b : G)
  | b3 (a b c : G)
def IsG (K : PySem.W.Frag) (H : Hp) : G → V → Prop
  | .nil, v => ∃ p, v = .ref p ∧ SqT K H p []
  | .leaf w ns, v => ∃ p, v = .ref p ∧ SqT K H p (.str w :: ns.map V.int)
  | .b1 a, v => ∃ p x, v = .ref p ∧ SqT K H p [.str "both", x] ∧ IsG K H a x
  | .both a b, v => ∃ p x y, v = .ref p ∧ SqT K H p [.str "both", x, y] ∧ IsG K H a x ∧ IsG K H b y
  | .b3 a b c, v => ∃ p x y z, v = .ref p ∧ SqT K H p [.str "both", x, y, z] ∧ IsG K H a x ∧ IsG K H b y ∧ IsG K H c z
theorem IsG.mono {K : PySem.W.Frag} {H H' : Hp} (f : ∀ a xs, SqT K H a xs → SqT K H' a xs) : ∀ {g : G} {v : V}, IsG K H g v → IsG K H' g v
  | .nil, _, ⟨p, e, h⟩ => ⟨p, e, f _ _ h⟩
  | .leaf _ _, _, ⟨p, e, h⟩ => ⟨p, e, f _ _ h⟩
  | .b1 _, _, ⟨p, x, e, h, ha⟩ => ⟨p, x, e, f _ _ h, ha.mono f⟩
  | .both _ _, _, ⟨p, x, y, e, h, ha, hb⟩ => ⟨p, x, y, e, f _ _ h, ha.mono f, hb.mono f⟩
  | .b3 _ _ _, _, ⟨p, x, y, z, e, h, ha, hb, hc⟩ => ⟨p, x, y, z, e, f _ _ h, ha.mono f, hb.mono f, hc.mono f⟩
theorem IsG.same {K : PySem.W.Frag} {H H' : Hp} {g : G} {v : V} (h : IsG K H g v) (e : Same H H') : IsG K H' g v := h.mono fun _ _ => same_t e
theorem IsG.sameX {K : PySem.W.Frag} {H H' : Hp} {g : G} {v : V} {r : Addr} (h : IsG K H g v) (e : SameX r H H') (l : LstAt H r) : IsG K H' g v := h.mono fun _ _ => e.t l
/-- a word's length; how great its number may be -/
def sortsL : List (Str × Int) := [("none", 1), ("next", 2), ("stride", 2), ("pairs", 2), ("both", 3)]
def mostL : List (Str × Int) := [("next", 3), ("stride", 3), ("pairs", 2)]
/-- the words of the leaves are not both -/
def WfG : G → Prop
  | .nil => True
  | .leaf s _ => s ≠ ("both" : Str)
  | .b1 a => WfG a
  | .both a b => WfG a ∧ WfG b
  | .b3 a b c => WfG a ∧ WfG b ∧ WfG c
def numOk (s : Str) : List Int → Bool
  | [] => false
  | n :: _ => (match mostL.lookup s with
    | some m => decide (1 ≤ n) && decide (n ≤ m)
    | none => false)
/-- what is_guesser tells -/
def isG : Nat → G → Bool
  | _, .nil => false
  | w, .leaf s ns => (match sortsL.lookup s with
      | none => false
      | some k => decide (((ns.length : Nat) : Int) + 1 = k) && decide (w ≤ 3) && (decide (s = "none") || numOk s ns))
  | _, .b1 _ => false
  | w, .both a b => decide (w ≤ 3) && (isG (w + 1) a && isG (w + 1) b)
  | _, .b3 _ _ _ => false
/-- a guesser, w bothes left -/
def good : Nat → G → Bool
  | _, .nil => false
  | _, .leaf w ns => decide (w = "none" ∧ ns = []) || (match ns with
      | [n] => decide ((w = "next" ∧ 1 ≤ n ∧ n ≤ 3) ∨ (w = "stride" ∧ 1 ≤ n ∧ n ≤ 3) ∨ (w = "pairs" ∧ 1 ≤ n ∧ n ≤ 2))
      | _ => false)
  | _, .b1 _ => false
  | 0, .both _ _ => false
  | n + 1, .both a b => good n a && good n b
  | _, .b3 _ _ _ => false
/-! ### what the law draws from -/
/-- tuples and known things stay -/
structure Imm (H H' : Hp) : Prop where
  tup : ∀ b xs, H b = some (.tup xs) → H' b = some (.tup xs)
  frz : ∀ b o u, H b = some (.frz o u) → H' b = some (.frz o u)
theorem Imm.refl (H : Hp) : Imm H H := ⟨fun _ _ h => h, fun _ _ _ h => h⟩
theorem Imm.trans {H H1 H2 : Hp} (a : Imm H H1) (b : Imm H1 H2) : Imm H H2 := ⟨fun c xs h => b.tup c xs (a.tup c xs h), fun c o u h => b.frz c o u (a.frz c o u h)⟩
theorem Imm.same {H H' : Hp} (e : Same H H') : Imm H H' := ⟨fun c xs h => e c _ h, fun c o u h => e c _ h⟩
theorem Imm.sameX {r : Addr} {H H' : Hp} (e : SameX r H H') (l : LstAt H r) : Imm H H' := by
  obtain ⟨ys, l⟩ := l
  exact ⟨fun c xs h => e c _ (fun z => by subst z; rw [l] at h; cases h) h, fun c o u h => e c _ (fun z => by subst z; rw [l] at h; cases h) h⟩
theorem Imm.upd {r : Addr} {H : Hp} {o : HO} (l : LstAt H r) : Imm H (upd H r o) := Imm.sameX SameX.upd l
theorem Imm.t {K : PySem.W.Frag} {H H' : Hp} {a : Addr} {xs : List V} (e : Imm H H') (h : SqT K H a xs) : SqT K H' a xs := by
  rcases h with (h | ⟨o, h⟩) | h
  · exact .inl (.inl (e.tup _ _ h))
  · exact .inl (.inr ⟨o, e.frz _ _ _ h⟩)
  · exact .inr h
theorem IsG.imm {K : PySem.W.Frag} {H H' : Hp} {g : G} {v : V} (h : IsG K H g v) (e : Imm H H') : IsG K H' g v := h.mono fun _ _ => e.t
/-- the script: known to the object, or of the module -/
def Sc (K : PySem.W.Frag) (H : Hp) (a : Addr) (xs : List V) : Prop := (∃ o, H a = some (.frz o (.lst xs))) ∨
    ∃ (o : Obj) (its : Array Value) (n : Nat), K.lookup a = some o ∧ o.cls = .type "list" ∧ o.dict = none ∧ o.data = .seq its n ∧ its.size ≤ sizeLine ∧ Vals xs its.toList
theorem Sc.sql {K : PySem.W.Frag} {H : Hp} {a : Addr} {xs : List V} (h : Sc K H a xs) : SqL K H a xs := by
  rcases h with h | h
  · exact .inl (.inr h)
  · exact .inr h
theorem Sc.imm {K : PySem.W.Frag} {H H' : Hp} {a : Addr} {xs : List V} (h : Sc K H a xs) (e : Imm H H') : Sc K H' a xs := by
  rcases h with ⟨o, h⟩ | h
  · exact .inl ⟨o, e.frz _ _ _ h⟩
  · exact .inr h
theorem Sc.of {K : PySem.W.Frag} {H : Hp} {a : Addr} {xs : List V} (O : Only H) (h : SqL K H a xs) : Sc K H a xs := by
  rcases h with (h | h) | h
  · rcases O a with z | ⟨o, ys, z⟩
    · rw [z] at h; cases h
    · rw [z] at h; cases h
  · exact .inl h
  · exact .inr h
/-- the law's row: the script, the next place, the mixed number -/
def Row (K : PySem.W.Frag) (H : Hp) (r : Addr) : Prop := ∃ (sc : Addr) (ns : List Int) (i s : Int), H r = some (.lst [.ref sc, .int i, .int s]) ∧ Sc K H sc (ns.map V.int) ∧ 0 ≤ i
theorem Row.at_ {K : PySem.W.Frag} {H : Hp} {r : Addr} (h : Row K H r) : LstAt H r := by
  obtain ⟨sc, ns, i, s, h, _⟩ := h
  exact ⟨_, h⟩
theorem Row.imm {K : PySem.W.Frag} {H H' : Hp} {r : Addr} (h : Row K H r) (e : Imm H H') (er : H' r = H r) : Row K H' r := by
  obtain ⟨sc, ns, i, s, h, hs, h0⟩ := h
  exact ⟨sc, ns, i, s, er.trans h, hs.imm e, h0⟩
theorem Row.same {K : PySem.W.Frag} {H H' : Hp} {r : Addr} (h : Row K H r) (e : Same H H') : Row K H' r := by
  obtain ⟨sc, ns, i, s, h, hs, h0⟩ := h
  exact ⟨sc, ns, i, s, e _ _ h, hs.imm (Imm.same e), h0⟩
theorem Row.upd {K : PySem.W.Frag} {H : Hp} {r D : Addr} {o : HO} (h : Row K H r) (l : LstAt H D) (n : D ≠ r) : Row K (upd H D o) r := h.imm (Imm.upd l) (upd_ne n.symm)
/-- what a draw promises -/
def spTaken (K : PySem.W.Frag) : Sp := fun vs H Q _ => ∃ (r : Addr) (m : Int), vs = [.ref r, .int m] ∧ Row K H r ∧ 0 < m ∧
  ∀ (x : Int) H', 0 ≤ x → x < m → SameX r H H' → Row K H' r → Q (.int x) H'
end St
namespace St
open PySem PySem.Spec PyProof.Rows L2
/-- the law's own guessers: within w others -/
def spGuesser (K : PySem.W.Frag) (n : Nat) : Sp := fun vs H Q _ => ∃ (r : Addr) (w : Nat), vs = [.ref r, .int (w : Int)] ∧ w < n ∧ Row K H r ∧
  ∀ (g : G) (v : V) H', SameX r H H' → Row K H' r → IsG K H' g v → good w g = true → Q v H'
theorem fn_zero {P : Program} {w : World} {K : PySem.W.Frag} {mg : Str → Option Value} {base : Heap} {CX : CXT} {k : Nat} {f : Addr} {fd : FuncData} {ps : List Str} {sp : Sp} (no : ∀ vs H Q E, ¬ sp vs H Q E) : FnOk P w K mg base CX k f fd ps sp :=
  ⟨fun vs H Q E h => absurd h (no vs H Q E), fun A outer s H args us vs Q E _ _ _ _ h => absurd h (no vs H Q E)⟩
theorem good_none (w : Nat) : good w (.leaf "none" []) = true := by unfold good; simp
theorem good_next {w : Nat} {n : Int} (h1 : 1 ≤ n) (h2 : n ≤ 3) : good w (.leaf "next" [n]) = true := by unfold good; simp [h1, h2]
theorem good_stride {w : Nat} {n : Int} (h1 : 1 ≤ n) (h2 : n ≤ 3) : good w (.leaf "stride" [n]) = true := by unfold good; simp [h1, h2]
theorem good_pairs {w : Nat} {n : Int} (h1 : 1 ≤ n) (h2 : n ≤ 2) : good w (.leaf "pairs" [n]) = true := by unfold good; simp [h1, h2]
end St
namespace St
open PySem PySem.Spec PyProof.Rows L2
theorem Row.nr {K : PySem.W.Frag} {H : Hp} {r p : Addr} (h : Row K H r) (np : H p = none) : p ≠ r := by
  obtain ⟨ys, hy⟩ := h.at_
  exact (ne_of_none hy np).symm
end St

/-! ### written dicts of numbers by texts -/
namespace St
open PySem PySem.Spec PyProof.Rows L2
def EntIs (p : Value × Value) (kv : Str × Int) : Prop := (∃ t, p.1 = .str kv.1 t) ∧ ∃ t, p.2 = .int kv.2 t
structure IDict (K : PySem.W.Frag) (w : World) (d : Addr) (kvs : List (Str × Int)) : Prop where
  ex : ∃ es n, KDict K w d es n ∧ Paired EntIs (es.toList.map fun e => (e.key, e.val)) kvs
theorem isStr_str (x z : Str) (t : Tok) : (Value.str x t).isStr z = (z == x) := by
  show (x == z) = (z == x)
  by_cases e : x = z
  · subst e; rfl
  · rw [beq_eq_false_iff_ne.mpr e, beq_eq_false_iff_ne.mpr (Ne.symm e)]
theorem find_ent (z : Str) : ∀ {es : List DictEntry} {kvs : List (Str × Int)}, Paired EntIs (es.map fun e => (e.key, e.val)) kvs →
    (kvs.lookup z = none ∧ es.find? (·.key.isStr z) = none ∧ es.any (·.refKey) = false) ∨ ∃ e n t, kvs.lookup z = some n ∧ es.find? (·.key.isStr z) = some e ∧ e.val = .int n t
  | [], [], .nil => .inl ⟨rfl, rfl, rfl⟩
  | e :: es, (k, n) :: kvs, .cons ⟨⟨t, h1⟩, ⟨t2, h2⟩⟩ r => by
    simp only at h1 h2
    by_cases c : z = k
    · subst c
      refine .inr ⟨e, n, t2, by simp [List.lookup], ?_, h2⟩
      rw [List.find?_cons, h1, isStr_str]
      simp
    · have c1 : (z == k) = false := beq_eq_false_iff_ne.mpr c
      rcases find_ent z r with ⟨a, b, d⟩ | ⟨e', n', t', a, b, d⟩
      · refine .inl ⟨by simp [List.lookup, c1, a], ?_, ?_⟩
        · rw [List.find?_cons, h1, isStr_str, c1]; exact b
        · rw [List.any_cons, d]
          have : e.refKey = false := by unfold DictEntry.refKey; rw [h1] <;> rfl
          rw [this]; rfl
      · refine .inr ⟨e', n', t', by simp [List.lookup, c1, a], ?_, d⟩
        rw [List.find?_cons, h1, isStr_str, c1]; exact b
theorem IDict.ns {K : PySem.W.Frag} {w : World} {d : Addr} {kvs : List (Str × Int)} (D : IDict K w d kvs) (z : Str) :
    (kvs.lookup z = none ∧ PySem.W.nsIn K d z = some none) ∨ ∃ n t, kvs.lookup z = some n ∧ PySem.W.nsIn K d z = some (some (.int n t)) := by
  obtain ⟨es, n, D, p⟩ := D.ex
  unfold PySem.W.nsIn
  rw [D.at_]
  rcases find_ent z p with ⟨a, b, c⟩ | ⟨e, n', t, a, b, c⟩
  · refine .inl ⟨a, ?_⟩
    simp only [b, c]
    rfl
  · refine .inr ⟨n', t, a, ?_⟩
    simp only [b, c]
section
variable {X : Cx} {d : Addr} {kvs : List (Str × Int)}
def rInI (d : Addr) (kvs : List (Str × Int)) : R2 := fun x y H Q => ∃ z, x = .str z ∧ y = .ref d ∧ Q (.bl (kvs.lookup z).isSome) H
def rNotInI (d : Addr) (kvs : List (Str × Int)) : R2 := fun x y H Q => ∃ z, x = .str z ∧ y = .ref d ∧ Q (.bl (!(kvs.lookup z).isSome)) H
def rIxI (d : Addr) (kvs : List (Str × Int)) : R2 := fun x y H Q => ∃ z n, x = .ref d ∧ y = .str z ∧ kvs.lookup z = some n ∧ Q (.int n) H
theorem op_in_id (D : IDict X.K X.w d kvs) : OpR X (compareOp .In) (rInI d kvs) := by
  obtain ⟨es, n, KD, _⟩ := D.ex
  intro pins s σ H x y v u Q I rx ry ⟨z, h1, h2, q⟩
  rcases D.ns z with ⟨a, b⟩ | ⟨m, t, a, b⟩
  · rw [a] at q
    exact op_in_kd KD pins s σ H x y v u Q I rx ry ⟨z, _, h1, h2, b, q⟩
  · rw [a] at q
    exact op_in_kd KD pins s σ H x y v u Q I rx ry ⟨z, _, h1, h2, b, q⟩
theorem op_notIn_id (D : IDict X.K X.w d kvs) : OpR X (compareOp .NotIn) (rNotInI d kvs) := by
  obtain ⟨es, n, KD, _⟩ := D.ex
  intro pins s σ H x y v u Q I rx ry ⟨z, h1, h2, q⟩
  rcases D.ns z with ⟨a, b⟩ | ⟨m, t, a, b⟩
  · rw [a] at q
    exact op_notIn_kd KD pins s σ H x y v u Q I rx ry ⟨z, _, h1, h2, b, q⟩
  · rw [a] at q
    exact op_notIn_kd KD pins s σ H x y v u Q I rx ry ⟨z, _, h1, h2, b, q⟩
theorem ix_id (D : IDict X.K X.w d kvs) : IxR X (rIxI d kvs) := by
  obtain ⟨es, nn, KD, _⟩ := D.ex
  intro value slice pins s σ H x y v u Q I rx ry ⟨z, m, h1, h2, h3, q⟩ hs
  rcases D.ns z with ⟨a, b⟩ | ⟨m', t, a, b⟩
  · rw [a] at h3; cases h3
  · rw [a] at h3; cases h3
    exact ix_kdict value slice pins s σ H x y v u Q I rx ry ⟨d, z, .int m, h1, h2, ⟨es, nn, _, KD.at_, KD.lit, b, ⟨t, rfl⟩⟩, q⟩ hs
end
theorem iteY {c A B : Prop} [Decidable c] (h : c) (a : A) : if c then A else B := by rw [if_pos h]; exact a
theorem iteN {c A B : Prop} [Decidable c] (h : ¬ c) (b : B) : if c then A else B := by rw [if_neg h]; exact b
theorem iteB {b : Bool} {A B : Prop} (e : b = true) (a : A) : if b = true then A else B := by rw [if_pos e]; exact a
theorem iteB0 {b : Bool} {A B : Prop} (e : b = false) (a : B) : if b = true then A else B := by rw [e, if_neg Bool.false_ne_true]; exact a
/-- the guessers' tables -/
structure Tab (K : PySem.W.Frag) (w : World) (mg : Str → Option Value) (dS dM : Addr) : Prop where
  g_SORTS : mg "SORTS" = some (.ref dS)
  i_SORTS : IDict K w dS sortsL
  g_MOST_OF : mg "MOST_OF" = some (.ref dM)
  i_MOST_OF : IDict K w dM mostL
  g_MOST_WITHIN : ∃ t, mg "MOST_WITHIN" = some (.int 3 t)
def spIs (K : PySem.W.Frag) (n : Nat) : Sp := fun vs H Q _ => ∃ (v : V) (g : G) (w : Nat), vs = [v, .int (w : Int)] ∧ IsG K H g v ∧ WfG g ∧ w ≤ 4 ∧ 5 ≤ w + n ∧ ∀ H', Same H H' → Q (.bl (isG w g)) H'
end St
namespace St
open PySem PySem.Spec PyProof.Rows L2
section
variable {X : Cx}
theorem pe_gref {x : Str} {a : Addr} {pos : Pos} (hg : Gl X x) (hm : X.mg x = some (.ref a)) (hd : (x == ("__debug__" : Str)) = false := by decide) : PE X (.Name x pos) (tC (.ref a)) := pe_glob hg hm (v := .ref a) rfl hd
theorem pe_gint {x : Str} {i : Int} {pos : Pos} (hg : Gl X x) (hm : ∃ t, X.mg x = some (.int i t)) (hd : (x == ("__debug__" : Str)) = false := by decide) : PE X (.Name x pos) (tC (.int i)) := by
  obtain ⟨t, hm⟩ := hm
  exact pe_glob hg hm (v := .int i) ⟨t, rfl⟩ hd
theorem pe_gstr {x : Str} {i : Str} {pos : Pos} (hg : Gl X x) (hm : ∃ t, X.mg x = some (.str i t)) (hd : (x == ("__debug__" : Str)) = false := by decide) : PE X (.Name x pos) (tC (.str i)) := by
  obtain ⟨t, hm⟩ := hm
  exact pe_glob hg hm (v := .str i) ⟨t, rfl⟩ hd
end
end St
namespace St
open PySem PySem.Spec PyProof.Rows L2
theorem sorts_cases {z : Str} {k : Int} (h : sortsL.lookup z = some k) : (z = "none" ∧ k = 1) ∨ (z = "next" ∧ k = 2) ∨ (z = "stride" ∧ k = 2) ∨ (z = "pairs" ∧ k = 2) ∨ (z = "both" ∧ k = 3) := by
  unfold sortsL at h
  simp only [List.lookup] at h
  repeat' split at h
  all_goals first | (cases h; done) | skip
  all_goals (rename_i e; have e' := eq_of_beq e; cases h; simp [e'])
theorem sorts_most {z : Str} {k : Int} (h : sortsL.lookup z = some k) (h1 : z ≠ ("none" : Str)) (h2 : z ≠ ("both" : Str)) : k = 2 ∧ ∃ m, mostL.lookup z = some m := by
  rcases sorts_cases h with ⟨e, _⟩ | ⟨rfl, e⟩ | ⟨rfl, e⟩ | ⟨rfl, e⟩ | ⟨e, _⟩
  · exact absurd e h1
  · exact ⟨e, 3, rfl⟩
  · exact ⟨e, 3, rfl⟩
  · exact ⟨e, 2, rfl⟩
  · exact absurd e h2
end St
/-! ### data of any depth -/
namespace St
open PySem PySem.Spec PyProof.Rows L2
theorem dmono {K : PySem.W.Frag} {H H' : Hp} (fL : ∀ a xs, SqL K H a xs → SqL K H' a xs) (fT : ∀ a xs, SqT K H a xs → SqT K H' a xs) {v : V} {d : PyData} (h : Dp K H v d) : Dp K H' v d := by
  refine Dp.rec (motive_1 := fun v d _ => Dp K H' v d) (motive_2 := fun vs ds _ => DpAll K H' vs ds) ?_ ?_ ?_ ?_ ?_ ?_ ?_ ?_ h
  · exact .non
  · exact fun b => .bl b
  · exact fun i => .int i
  · exact fun x => .str x
  · exact fun h _ ih => .lst (fL _ _ h) ih
  · exact fun h _ ih => .tup (fT _ _ h) ih
  · exact .nil
  · exact fun _ _ a b => .cons a b
theorem dsame {K : PySem.W.Frag} {H H' : Hp} {v : V} {d : PyData} (h : Dp K H v d) (e : Same H H') : Dp K H' v d := dmono (fun _ _ => same_l e) (fun _ _ => same_t e) h
theorem dsameA {K : PySem.W.Frag} {H H' : Hp} (e : Same H H') : ∀ {vs : List V} {ds : List PyData}, DpAll K H vs ds → DpAll K H' vs ds
  | _, _, .nil => .nil
  | _, _, .cons a b => .cons (dsame a e) (dsameA e b)
theorem dlen {K : PySem.W.Frag} {H : Hp} : ∀ {vs : List V} {ds : List PyData}, DpAll K H vs ds → vs.length = ds.length
  | _, _, .nil => rfl
  | _, _, .cons _ b => congrArg (· + 1) (dlen b)
theorem dat {K : PySem.W.Frag} {H : Hp} : ∀ {vs : List V} {ds : List PyData} {i : Nat} {d : PyData}, DpAll K H vs ds → ds[i]? = some d → ∃ v, vs[i]? = some v ∧ Dp K H v d
  | _, _, 0, _, .cons a _, e => ⟨_, rfl, by cases Option.some.inj e; exact a⟩
  | _, _, i + 1, _, .cons _ b, e => dat (i := i) b e
/-- how deep -/
def dep : Nat → PyData → Prop
  | 0, _ => False
  | n + 1, .list ds => ds.length ≤ 100000 ∧ ∀ d ∈ ds, dep n d
  | n + 1, .tuple ds => ds.length ≤ 100000 ∧ ∀ d ∈ ds, dep n d
  | _ + 1, _ => True
def spAlike (K : PySem.W.Frag) (n : Nat) : Sp := fun vs H Q _ => ∃ (v1 v2 : V) (d : PyData), vs = [v1, v2] ∧ Dp K H v1 d ∧ Dp K H v2 d ∧ dep n d ∧ ∀ H', Same H H' → Q (.bl true) H'
theorem tup_list {K : PySem.W.Frag} {T : String} (h : T = "tuple" ∨ T = "list") : PySem.W.kitAny K (.type T) [.type "tuple", .type "list"] = some true := by
  rcases h with rfl | rfl
  · exact kitAny_cons (kit_ty (r := true) (by decide +kernel)) (fun h => nomatch h) fun _ => rfl
  · exact kitAny_cons (kit_ty (r := false) (by decide +kernel)) (fun _ => kitAny_cons (kit_ty (r := true) (by decide +kernel)) (fun h => nomatch h) fun _ => rfl) fun h => nomatch h
end St
/-! ### rules for within a comprehension: the frag is told -/
namespace St
open PySem PySem.Spec PyProof.Rows L2
section
variable {X : Cx} {K : PySem.W.Frag}
theorem ix_listK (h : X.K = K := by rfl) : IxR X (rIxL K) := h ▸ ix_list
theorem ix_tupK (h : X.K = K := by rfl) : IxR X (rIxT K) := h ▸ ix_tup
theorem ix_seqK (h : X.K = K := by rfl) : IxR X (rIx K) := h ▸ ix_seq
def rLen (K : PySem.W.Frag) : List V → Hp → VK → Prop := fun xs H Q => ∃ p ys, xs = [.ref p] ∧ (SqL K H p ys ∨ SqT K H p ys) ∧ Q (.int ys.length) H
theorem call_lenK (h : X.K = K := by rfl) : CallR X (.builtin "len") (rLen K) := h ▸ call_len_seq
theorem in_seqK (h : X.K = K := by rfl) : OpR X (compareOp .In) (rIn K false) := h ▸ op_in_seq
theorem notIn_seqK (h : X.K = K := by rfl) : OpR X (compareOp .NotIn) (rIn K true) := h ▸ op_notIn_seq
end
end St

local macro_rules
  | `(tactic| infer_instance) => `(tactic| first
    | assumption
    | exact L2.upd_same
    | (refine St.same_upd (by assumption) _ _ ?_; infer_instance)
    | (refine (show L2.Same _ _ by assumption) _ _ ?_; infer_instance)
    | (refine (show St.SameX _ _ _ by assumption) _ _ (by assumption) ?_; infer_instance)
    | (refine Or.inl (Or.inl ?_); infer_instance))
local macro_rules
  | `(tactic| and_intros) => `(tactic| repeat (first
    | refine ⟨_, rfl, ?_⟩
    | refine ⟨rfl, ?_⟩
    | refine ⟨_, _, rfl, rfl, ?_⟩
    | refine ⟨_, _, _, _, rfl, rfl, (by infer_instance), (by first | rfl | exact L2.atI_nat (j := 0) rfl | exact L2.atI_nat (j := 1) rfl | exact L2.atI_nat (j := 2) rfl), ?_⟩
    | refine ⟨_, _, rfl, (by first | (refine Or.inl ?_; infer_instance) | (refine Or.inr ?_; infer_instance)), ?_⟩
    | refine ⟨_, _, rfl, (show L2.SqL _ _ _ _ by infer_instance), ?_⟩
    | refine ⟨_, _, _, _, true, rfl, L2.ClsV.ty _, (by assumption), L2.kit_ty (by decide +kernel), ?_⟩
    | refine ⟨_, _, _, _, false, rfl, L2.ClsV.ty _, (by assumption), L2.kit_ty (by decide +kernel), ?_⟩
    | refine And.intro (by first | decide | exact St.sz_1 | exact St.sz_2 | exact St.sz_3 | exact St.sz_4 | exact St.sz_5 | exact St.sz_6 | exact St.sz_7 | exact St.sz_8 | assumption | omega | (refine Or.inr ?_; decide) | (show (_ : Int) < _; first | decide | assumption | omega) | exact Or.inr ⟨by decide, by decide⟩ | exact ⟨by decide, by decide⟩) ?_))
local macro_rules
  | `(tactic| ac_rfl) => `(tactic| first
    | assumption
    | exact L2.Same.refl _
    | exact St.SameX.refl _ _
    | (refine L2.Same.trans ?_ (St.same_upd (by assumption)); ac_rfl)
    | (refine St.SameX.trans ?_ (St.SameX.of (St.same_upd (by assumption))); ac_rfl)
    | (refine L2.Same.trans ?_ (show L2.Same _ _ by assumption); ac_rfl)
    | (refine St.SameX.trans ?_ (St.SameX.of (show L2.Same _ _ by assumption)); ac_rfl)
    | (refine St.SameX.trans ?_ (show St.SameX _ _ _ by assumption); ac_rfl))

namespace St
open PySem PySem.Spec PyProof.Rows L2
def topS (i : Nat) : Stmt := PySem.Challenge.pw_stridewell_k12_written_and_read.main.body.getD i (.Pass ⟨0, 0, 0, 0⟩)
end St

namespace St
open PySem PySem.Spec PyProof.Rows L2
abbrev s_is_guesser : Stmt := topS 8
abbrev N_is_guesser : List Str := ["guesser", "within"]
abbrev p_is_guesser : List Str := ["guesser", "within"]
theorem sc_is_guesser : FnScope N_is_guesser p_is_guesser (defScope s_is_guesser) := ⟨rfl, rfl, rfl, by decide +kernel, rfl, by decide +kernel, by decide +kernel⟩
abbrev s_need_guesser : Stmt := topS 9
abbrev N_need_guesser : List Str := ["guesser"]
abbrev p_need_guesser : List Str := ["guesser"]
theorem sc_need_guesser : FnScope N_need_guesser p_need_guesser (defScope s_need_guesser) := ⟨rfl, rfl, rfl, by decide +kernel, rfl, by decide +kernel, by decide +kernel⟩
section
variable {P : Program} {w : World} {K : PySem.W.Frag} {mg : Str → Option Value} {base : Heap} {f dS dM : Addr} {fd : FuncData}
theorem ok_is_guesser (T : Nms mg) (B : Tab K w mg dS dM) (D_is_guesser : Df K mg "is_guesser" s_is_guesser p_is_guesser f fd) : ∀ n : Nat, FnOk P w K mg base CX0 n f fd p_is_guesser (spIs K n)
  | 0 => fn_zero fun vs H Q E ⟨v, g, w, _, _, _, h, h2, _⟩ => by omega
  | n + 1 => by
    have G_is_guesser := ok_is_guesser T B D_is_guesser n
    refine D_is_guesser.F.ok sc_is_guesser (fun vs H Q E h => ?_) (fun cdv A outer s H vs Q E hr h => ?_)
    · obtain ⟨r, m, wi, rfl, _⟩ := h
      rfl
    obtain ⟨v, g, m, rfl, hG, hW, h4, h5, q⟩ := h
    refine ⟨_, (pss_cons (ps_if (PW.pt (pw_or (pt_cmpR op_eq (pe_callB call_len_seq (by rfl) T.n_len (by decide +kernel) (pa_cons (pv 0) pa_nil)) pe_int (nomark _)) (pw_or (pt_cmpR (op_notIn_id B.i_SORTS) (pe_ix ix_tup (pv 0) pe_int (fun _ _ => rfl)) (pe_gref (by rfl) B.g_SORTS) (by with_unfolding_all rfl)) (pw_or (pt_cmpR op_ne (pe_callB call_len_seq (by rfl) T.n_len (by decide +kernel) (pa_cons (pv 0) pa_nil)) (pe_ix (ix_id B.i_SORTS) (pe_gref (by rfl) B.g_SORTS) (pe_ix ix_tup (pv 0) pe_int (fun _ _ => rfl)) (fun _ _ => rfl)) (nomark _)) (pw_or1 (pt_cmpR op_gt (pv 1) (pe_gint (by rfl) B.g_MOST_WITHIN) (nomark _)))))))
    (pss_one (ps_ret pe_bl))
    (pss_nil))
  (pss_cons (ps_if (pt_cmpR op_eq (pe_ix ix_tup (pv 0) pe_int (fun _ _ => rfl)) pe_str (nomark _))
    (pss_one (ps_ret (pe_and (pe_call G_is_guesser (hr.mono (by first | decide | omega)) (by rfl) D_is_guesser.m D_is_guesser.F.kp D_is_guesser.b .nil pass0 (pa_cons (pe_ix ix_tup (pv 0) pe_int (fun _ _ => rfl)) (pa_cons (pe_op op_add (pv 1) pe_int) pa_nil))) (pe_one (pe_call G_is_guesser (hr.mono (by first | decide | omega)) (by rfl) D_is_guesser.m D_is_guesser.F.kp D_is_guesser.b .nil pass0 (pa_cons (pe_ix ix_tup (pv 0) pe_int (fun _ _ => rfl)) (pa_cons (pe_op op_add (pv 1) pe_int) pa_nil)))))))
    (pss_nil))
  (pss_one (ps_ret (pe_or (pe_cmpR op_eq (pe_ix ix_tup (pv 0) pe_int (fun _ _ => rfl)) pe_str (nomark _)) (pe_one (pe_chain op_le op_le pe_int (pe_ix ix_tup (pv 0) pe_int (fun _ _ => rfl)) (pe_ix (ix_id B.i_MOST_OF) (pe_gref (by rfl) B.g_MOST_OF) (pe_ix ix_tup (pv 0) pe_int (fun _ _ => rfl)) (fun _ _ => rfl))))))))), ?_⟩
    cases g with
    | nil =>
      obtain ⟨p, rfl, hp⟩ := hG
      and_intros
      refine iteB (b := decide _) (decide_eq_true rfl) ?_
      exact q _ (Same.refl _)
    | leaf z ns =>
      obtain ⟨p, rfl, hp⟩ := hG
      have ez : ((.str z :: ns.map V.int : List V).length : Int) = (ns.length : Int) + 1 := by rw [List.length_cons, List.length_map]; rfl
      and_intros
      cases e : sortsL.lookup z with
      | none =>
        refine iteB rfl ?_
        refine iteB rfl ?_
        have q' := q H (Same.refl _)
        unfold isG at q'
        rw [e] at q'
        exact q'
      | some k =>
        refine iteB0 rfl ?_
        and_intros
        refine ⟨z, k, rfl, rfl, e, ?_⟩
        and_intros
        have q' : ∀ H', Same H H' → Q (V.bl (decide (((ns.length : Nat) : Int) + 1 = k) && decide (m ≤ 3) && (decide (z = "none") || numOk z ns))) H' := fun H' s => by
          have q' := q H' s
          unfold isG at q'
          rw [e] at q'
          exact q'
        by_cases c1 : ((ns.length : Nat) : Int) + 1 = k
        · rw [decide_eq_true c1] at q'
          refine iteB0 (by rw [ez, decide_eq_true (congrArg V.int c1)]; rfl) ?_
          and_intros
          by_cases c2 : m ≤ 3
          · rw [decide_eq_true c2] at q'
            refine iteB0 (decide_eq_false (by omega)) ?_
            and_intros
            refine iteB0 (decide_eq_false fun x => hW (V.str.inj x)) ?_
            and_intros
            by_cases c3 : z = "none"
            · rw [decide_eq_true c3] at q'
              refine iteB (decide_eq_true (congrArg V.str c3)) ?_
              exact q' _ (Same.refl _)
            · rw [decide_eq_false c3] at q'
              refine iteB0 (decide_eq_false fun x => c3 (V.str.inj x)) ?_
              obtain ⟨k2, mo, em⟩ := sorts_most e c3 hW
              obtain ⟨x, rfl⟩ : ∃ x, ns = [x] := by
                cases ns with
                | nil => rw [List.length_nil] at c1; omega
                | cons x r =>
                  cases r with
                  | nil => exact ⟨x, rfl⟩
                  | cons y r => rw [List.length_cons, List.length_cons] at c1; omega
              have eo : numOk z [x] = (decide (1 ≤ x) && decide (x ≤ mo)) := by unfold numOk; rw [em]
              rw [eo] at q'
              and_intros
              by_cases c4 : 1 ≤ x
              · refine iteB (decide_eq_true c4) ?_
                rw [decide_eq_true c4] at q'
                and_intros
                refine ⟨_, _, rfl, rfl, em, ?_⟩
                and_intros
                exact q' _ (Same.refl _)
              · refine iteB0 (decide_eq_false c4) ?_
                rw [decide_eq_false c4] at q'
                exact q' _ (Same.refl _)
          · rw [decide_eq_false c2] at q'
            refine iteB (decide_eq_true (by omega)) ?_
            exact q' _ (Same.refl _)
        · rw [decide_eq_false c1] at q'
          refine iteB (by rw [ez, decide_eq_false (fun e => c1 (V.int.inj e))]; rfl) ?_
          refine iteB rfl ?_
          exact q' _ (Same.refl _)
    | b1 a =>
      obtain ⟨p, x, rfl, hp, ha⟩ := hG
      and_intros
      refine ⟨_, 3, rfl, rfl, rfl, ?_⟩
      and_intros
      exact q _ (Same.refl _)
    | b3 a b c =>
      obtain ⟨p, x, y, z, rfl, hp, ha⟩ := hG
      and_intros
      refine ⟨_, 3, rfl, rfl, rfl, ?_⟩
      and_intros
      exact q _ (Same.refl _)
    | both a b =>
      obtain ⟨p, x, y, rfl, hp, ha, hb⟩ := hG
      and_intros
      refine ⟨_, 3, rfl, rfl, rfl, ?_⟩
      and_intros
      have q' : ∀ H', Same H H' → Q (V.bl (decide (m ≤ 3) && (isG (m + 1) a && isG (m + 1) b))) H' := q
      by_cases c2 : m ≤ 3
      · rw [decide_eq_true c2] at q'
        refine iteB0 (decide_eq_false (by omega)) ?_
        and_intros
        have ek : ∀ z : V, ([z, V.int ((m : Int) + 1)] : List V) = [z, V.int ((m + 1 : Nat) : Int)] := fun z => congrArg (fun i : Int => [z, V.int i]) (by omega)
        refine ⟨x, a, m + 1, ek _, ha, hW.1, by omega, by omega, fun H1 s1 => ?_⟩
        refine ⟨_, rfl, ?_⟩
        cases ea : isG (m + 1) a with
        | false =>
          refine iteN Bool.false_ne_true ?_
          rw [ea] at q'
          exact q' _ s1
        | true =>
          refine iteY rfl ?_
          rw [ea] at q'
          have hp1 := same_t s1 hp
          and_intros
          refine ⟨y, b, m + 1, ek _, hb.same s1, hW.2, by omega, by omega, fun H2 s2 => ?_⟩
          exact q' _ (s1.trans s2)
      · rw [decide_eq_false c2] at q'
        refine iteB (decide_eq_true (by omega)) ?_
        exact q' _ (Same.refl _)
theorem isG_good : ∀ (k : Nat) (g : G), good k g = true → k ≤ 3 → isG (3 - k) g = true ∧ WfG g
  | _, .nil, h, _ => by simp [good] at h
  | _, .b1 _, h, _ => by simp [good] at h
  | _, .b3 _ _ _, h, _ => by simp [good] at h
  | 0, .both _ _, h, _ => by simp [good] at h
  | k + 1, .both a b, h, hk => by
    have h' : (good k a && good k b) = true := h
    rw [Bool.and_eq_true] at h'
    have ha := isG_good k a h'.1 (by omega)
    have hb := isG_good k b h'.2 (by omega)
    have e : 3 - (k + 1) + 1 = 3 - k := by omega
    refine ⟨?_, ha.2, hb.2⟩
    show (decide (3 - (k + 1) ≤ 3) && (isG (3 - (k + 1) + 1) a && isG (3 - (k + 1) + 1) b)) = true
    rw [e, ha.1, hb.1, decide_eq_true (by omega)]
    rfl
  | k, .leaf w ns, h, _ => by
    unfold good at h
    rw [Bool.or_eq_true] at h
    rcases h with h | h
    · obtain ⟨rfl, rfl⟩ := of_decide_eq_true h
      refine ⟨?_, by show ("none" : Str) ≠ "both"; decide⟩
      show ((decide ((((0 : Nat)) : Int) + 1 = 1) && decide (3 - k ≤ 3)) && (decide (("none" : Str) = "none") || numOk "none" [])) = true
      rw [decide_eq_true (by omega : 3 - k ≤ 3)]
      rfl
    · cases ns with
      | nil => simp at h
      | cons n r =>
        cases r with
        | cons _ _ => simp at h
        | nil =>
          have h' := of_decide_eq_true h
          rcases h' with ⟨rfl, h1, h2⟩ | ⟨rfl, h1, h2⟩ | ⟨rfl, h1, h2⟩
          · refine ⟨?_, by show ("next" : Str) ≠ "both"; decide⟩
            show ((decide ((((1 : Nat)) : Int) + 1 = 2) && decide (3 - k ≤ 3)) && (decide (("next" : Str) = "none") || (decide (1 ≤ n) && decide (n ≤ 3)))) = true
            rw [decide_eq_true (by omega : 3 - k ≤ 3), decide_eq_true h1, decide_eq_true h2]
            simp
          · refine ⟨?_, by show ("stride" : Str) ≠ "both"; decide⟩
            show ((decide ((((1 : Nat)) : Int) + 1 = 2) && decide (3 - k ≤ 3)) && (decide (("stride" : Str) = "none") || (decide (1 ≤ n) && decide (n ≤ 3)))) = true
            rw [decide_eq_true (by omega : 3 - k ≤ 3), decide_eq_true h1, decide_eq_true h2]
            simp
          · refine ⟨?_, by show ("pairs" : Str) ≠ "both"; decide⟩
            show ((decide ((((1 : Nat)) : Int) + 1 = 2) && decide (3 - k ≤ 3)) && (decide (("pairs" : Str) = "none") || (decide (1 ≤ n) && decide (n ≤ 2)))) = true
            rw [decide_eq_true (by omega : 3 - k ≤ 3), decide_eq_true h1, decide_eq_true h2]
            simp
/-- of a good guesser nothing is refused -/
def spNeedG (K : PySem.W.Frag) : Sp := fun vs H Q _ => ∃ (v : V) (g : G), vs = [v] ∧ IsG K H g v ∧ good 3 g = true ∧ ∀ H', Same H H' → Q .non H'
theorem ok_need_guesser {f2 : Addr} {fd2 : FuncData} (T : Nms mg) (B : Tab K w mg dS dM) (D_is_guesser : Df K mg "is_guesser" s_is_guesser p_is_guesser f fd) (D_need_guesser : Df K mg "need_guesser" s_need_guesser p_need_guesser f2 fd2) : FnOk P w K mg base CX0 6 f2 fd2 p_need_guesser (spNeedG K) := by
  have G_is_guesser : FnOk P w K mg base CX0 5 f fd p_is_guesser (spIs K 5) := ok_is_guesser T B D_is_guesser 5
  refine D_need_guesser.F.ok sc_need_guesser (fun vs H Q E h => ?_) (fun cdv A outer s H vs Q E hr h => ?_)
  · obtain ⟨r, m, rfl, _⟩ := h
    rfl
  obtain ⟨v, g, rfl, hG, hg, q⟩ := h
  obtain ⟨hi, hW⟩ := isG_good 3 g hg (Nat.le_refl _)
  refine ⟨_, (pss_one (ps_if (pt_not (pt_val (pe_call G_is_guesser (hr.mono (by first | decide | omega)) (by rfl) D_is_guesser.m D_is_guesser.F.kp D_is_guesser.b .nil pass0 (pa_cons (pv 0) (pa_cons pe_int pa_nil)))))
    (pss_one (ps_never))
    (pss_nil))), ?_⟩
  and_intros
  refine ⟨v, g, 0, rfl, hG, hW, by omega, by omega, fun H1 s1 => ?_⟩
  and_intros
  rw [show isG 0 g = true from hi]
  exact q _ s1
end
end St

namespace St
open PySem PySem.Spec PyProof.Rows L2 TL
/-! ### the words of a guesser -/
def strN (n : Int) : Str := Str.ofString (toString n)
def wordsG : G → List Str
  | .leaf w ns => w :: ns.map strN
  | .both a b => "both" :: (wordsG a ++ wordsG b)
  | _ => []
theorem good_leaf {k : Nat} {w : Str} {ns : List Int} (h : good k (.leaf w ns) = true) : (w = "none" ∧ ns = []) ∨ ∃ n, ns = [n] ∧ (n = 1 ∨ n = 2 ∨ n = 3) ∧ (w = "next" ∨ w = "stride" ∨ w = "pairs") := by
  unfold good at h
  rw [Bool.or_eq_true] at h
  rcases h with h | h
  · exact .inl (of_decide_eq_true h)
  · cases ns with
    | nil => simp at h
    | cons n r =>
      cases r with
      | cons _ _ => simp at h
      | nil =>
        have h' := of_decide_eq_true h
        refine .inr ⟨n, rfl, ?_⟩
        rcases h' with ⟨rfl, h1, h2⟩ | ⟨rfl, h1, h2⟩ | ⟨rfl, h1, h2⟩
        · exact ⟨by omega, .inl rfl⟩
        · exact ⟨by omega, .inr (.inl rfl)⟩
        · exact ⟨by omega, .inr (.inr rfl)⟩
theorem len_app (x y : Str) : (x ++ y).length = x.length + y.length := by
  show (x ++ y).cps.size = x.cps.size + y.cps.size
  rw [show (x ++ y).cps = x.cps ++ y.cps from rfl, Array.size_append]
/-- how many signs and words -/
def wt (ws : List Str) : Nat := (ws.map (·.length)).sum + ws.length
theorem wt_append (a b : List Str) : wt (a ++ b) = wt a + wt b := by
  unfold wt
  rw [List.map_append, List.sum_append, List.length_append]
  omega
theorem wt_cons (a : Str) (b : List Str) : wt (a :: b) = a.length + 1 + wt b := by
  unfold wt
  rw [List.map_cons, List.sum_cons, List.length_cons]
  omega
theorem pow_ge (k : Nat) : 1 ≤ 2 ^ k := Nat.one_le_two_pow
theorem wt_words : ∀ (k : Nat) (g : G), good k g = true → wt (wordsG g) + 5 ≤ 14 * 2 ^ k
  | _, .nil, h => by simp [good] at h
  | _, .b1 _, h => by simp [good] at h
  | _, .b3 _ _ _, h => by simp [good] at h
  | 0, .both _ _, h => by simp [good] at h
  | k + 1, .both a b, h => by
    have h' : (good k a && good k b) = true := h
    rw [Bool.and_eq_true] at h'
    have ha := wt_words k a h'.1
    have hb := wt_words k b h'.2
    show wt ("both" :: (wordsG a ++ wordsG b)) + 5 ≤ 14 * 2 ^ (k + 1)
    rw [wt_cons, wt_append, Nat.pow_succ]
    have : ("both" : Str).length = 4 := rfl
    omega
  | k, .leaf w ns, h => by
    have p := pow_ge k
    have e : wt (wordsG (.leaf w ns)) ≤ 9 := by
      rcases good_leaf h with ⟨rfl, rfl⟩ | ⟨n, rfl, hn, hw⟩
      · decide
      · rcases hn with rfl | rfl | rfl <;> rcases hw with rfl | rfl | rfl <;> decide
    omega
theorem words_ne : ∀ (k : Nat) (g : G), good k g = true → wordsG g ≠ []
  | _, .nil, h => by simp [good] at h
  | _, .b1 _, h => by simp [good] at h
  | _, .b3 _ _ _, h => by simp [good] at h
  | _, .both _ _, _ => by unfold wordsG; simp
  | _, .leaf _ _, _ => by unfold wordsG; simp
theorem words_no32 : ∀ (k : Nat) (g : G), good k g = true → ∀ p ∈ wordsG g, (32 : Nat) ∉ tl p
  | _, .nil, h => by simp [good] at h
  | _, .b1 _, h => by simp [good] at h
  | _, .b3 _ _ _, h => by simp [good] at h
  | 0, .both _ _, h => by simp [good] at h
  | k + 1, .both a b, h => by
    have h' : (good k a && good k b) = true := h
    rw [Bool.and_eq_true] at h'
    intro p hp
    rcases List.mem_cons.mp (show p ∈ ("both" : Str) :: (wordsG a ++ wordsG b) from hp) with rfl | hp
    · decide
    · rcases List.mem_append.mp hp with hp | hp
      · exact words_no32 k a h'.1 p hp
      · exact words_no32 k b h'.2 p hp
  | k, .leaf w ns, h => by
    intro p hp
    rcases good_leaf h with ⟨rfl, rfl⟩ | ⟨n, rfl, hn, hw⟩
    · rcases List.mem_cons.mp (show p ∈ ("none" : Str) :: [] from hp) with rfl | hp
      · decide
      · cases hp
    · rcases List.mem_cons.mp (show p ∈ w :: [strN n] from hp) with rfl | hp
      · rcases hw with rfl | rfl | rfl <;> decide
      · rw [List.mem_singleton.mp hp]
        rcases hn with rfl | rfl | rfl <;> decide
/-! ### the text of a guesser, by the law -/
def textG : G → Str
  | .both a b => (((("both " : Str) ++ textG a) ++ (" " : Str)) ++ textG b)
  | g => Txt.join " " (wordsG g)
theorem joinL_append (S : List Nat) : ∀ (xs ys : List (List Nat)), xs ≠ [] → ys ≠ [] → joinL S (xs ++ ys) = joinL S xs ++ (S ++ joinL S ys)
  | [], _, h, _ => absurd rfl h
  | [x], y :: r, _, _ => rfl
  | [_], [], _, h => absurd rfl h
  | x :: z :: r, ys, _, h => by
    show x ++ (S ++ joinL S ((z :: r) ++ ys)) = (x ++ (S ++ joinL S (z :: r))) ++ (S ++ joinL S ys)
    rw [joinL_append S (z :: r) ys (by simp) h, List.append_assoc, List.append_assoc]
theorem str_ext {x y : Str} (h : tl x = tl y) : x = y := by
  obtain ⟨⟨a⟩⟩ := x
  obtain ⟨⟨b⟩⟩ := y
  have e : a = b := h
  rw [e]
theorem text_join : ∀ (k : Nat) (g : G), good k g = true → textG g = Txt.join " " (wordsG g)
  | _, .nil, h => by simp [good] at h
  | _, .b1 _, h => by simp [good] at h
  | _, .b3 _ _ _, h => by simp [good] at h
  | 0, .both _ _, h => by simp [good] at h
  | k + 1, .both a b, h => by
    have h' : (good k a && good k b) = true := h
    rw [Bool.and_eq_true] at h'
    have ha := text_join k a h'.1
    have hb := text_join k b h'.2
    have na := words_ne k a h'.1
    have nb := words_ne k b h'.2
    refine str_ext ?_
    show tl ((((("both " : Str) ++ textG a) ++ (" " : Str)) ++ textG b)) = _
    rw [ha, hb, tl_append, tl_append, tl_append, join_eq, join_eq, join_eq, tl_join, tl_join, tl_join]
    show _ = joinL (tl " ") (tl "both" :: (wordsG a ++ wordsG b).map tl)
    rw [List.map_append]
    have e := joinL_append (tl " ") [tl "both"] ((wordsG a).map tl ++ (wordsG b).map tl) (by simp) (by simp [na])
    rw [List.singleton_append] at e
    rw [e, joinL_append _ _ _ (by simpa using na) (by simpa using nb)]
    show (tl "both " ++ _ ++ tl " ") ++ _ = tl "both" ++ (tl " " ++ (_ ++ (tl " " ++ _)))
    rw [show tl ("both " : Str) = tl "both" ++ tl " " by decide]
    simp only [List.append_assoc]
  | _, .leaf _ _, _ => rfl
theorem join_len : ∀ (ws : List Str), (Txt.join " " ws).length ≤ wt ws := by
  intro ws
  rw [join_eq]
  induction ws with
  | nil => exact Nat.le_refl _
  | cons a r ih =>
    cases r with
    | nil =>
      rw [wt_cons]
      show a.length ≤ _
      omega
    | cons b r =>
      rw [wt_cons]
      show (a ++ " " ++ Str.join " " (b :: r)).length ≤ _
      rw [len_app, len_app]
      have : (" " : Str).length = 1 := rfl
      omega
theorem text_len {k : Nat} {g : G} (h : good k g = true) : (textG g).length + 5 ≤ 14 * 2 ^ k := by
  rw [text_join k g h]
  have a := join_len (wordsG g)
  have b := wt_words k g h
  omega
theorem read_back {k : Nat} {g : G} (h : good k g = true) : Txt.split (textG g) " " = wordsG g := by
  rw [text_join k g h]
  exact split_join (y := " ") (s := 32) (S := []) (by decide) (by decide +kernel) (words_ne k g h) (words_no32 k g h)
end St

namespace St
open PySem PySem.Spec PyProof.Rows L2 TL
abbrev s_words_of : Stmt := topS 12
abbrev N_words_of : List Str := ["guesser", "part"]
abbrev p_words_of : List Str := ["guesser"]
theorem sc_words_of : FnScope N_words_of p_words_of (defScope s_words_of) := ⟨rfl, rfl, rfl, by decide +kernel, rfl, by decide +kernel, by decide +kernel⟩
abbrev s_written : Stmt := topS 13
abbrev N_written : List Str := ["guesser"]
abbrev p_written : List Str := ["guesser"]
theorem sc_written : FnScope N_written p_written (defScope s_written) := ⟨rfl, rfl, rfl, by decide +kernel, rfl, by decide +kernel, by decide +kernel⟩
section
variable {P : Program} {w : World} {K : PySem.W.Frag} {mg : Str → Option Value} {base : Heap} {f dS dM fI fN : Addr} {fd fdI fdN : FuncData}
def spWords (K : PySem.W.Frag) (n : Nat) : Sp := fun vs H Q _ => ∃ (v : V) (g : G) (k : Nat), vs = [v] ∧ IsG K H g v ∧ good k g = true ∧ k < n ∧ k ≤ 3 ∧ ∀ p H', Same H H' → H p = none → H' p = some (.lst ((wordsG g).map V.str)) → Q (.ref p) H'
theorem natAbs_log {n : Int} (h : n = 1 ∨ n = 2 ∨ n = 3) : n.natAbs.log2 < 1920 := by
  rcases h with rfl | rfl | rfl <;> decide
theorem ok_words_of (T : Nms mg) (D_words_of : Df K mg "words_of" s_words_of p_words_of f fd) : ∀ n : Nat, FnOk P w K mg base CX0 n f fd p_words_of (spWords K n)
  | 0 => fn_zero fun vs H Q E ⟨v, g, k, _, _, _, h, _⟩ => by omega
  | n + 1 => by
    have G_words_of := ok_words_of T D_words_of n
    refine D_words_of.F.ok sc_words_of (fun vs H Q E h => ?_) (fun cdv A outer s H vs Q E hr h => ?_)
    · obtain ⟨r, m, wi, rfl, _⟩ := h
      rfl
    obtain ⟨v, g, k, rfl, hG, hg, hk, hk3, q⟩ := h
    refine ⟨_, (pss_cons (ps_if (pt_cmpR op_eq (pe_ix ix_tup (pv 0) pe_int (fun _ _ => rfl)) pe_str (nomark _))
    (pss_one (ps_ret (pe_op op_cat (pe_op op_cat (pe_lst (pa_cons pe_str pa_nil)) (pe_call G_words_of (hr.mono (by first | decide | omega)) (by rfl) D_words_of.m D_words_of.F.kp D_words_of.b .nil pass0 (pa_cons (pe_ix ix_tup (pv 0) pe_int (fun _ _ => rfl)) pa_nil))) (pe_call G_words_of (hr.mono (by first | decide | omega)) (by rfl) D_words_of.m D_words_of.F.kp D_words_of.b .nil pass0 (pa_cons (pe_ix ix_tup (pv 0) pe_int (fun _ _ => rfl)) pa_nil)))))
    (pss_nil))
  (pss_one (ps_ret (pe_lc (own := [("part", 1)]) (g := gName 1) rfl sc_words_of.nd (pi_tup (pv 0)) (blkOk_by (own := [("part", 1)]) (N := N_words_of) (sc := defScope s_words_of) (by decide +kernel)) (fun _ _ _ _ _ => pg_name (i := 1) sc_words_of.nd rfl (Or.inl rfl)) (fun _ _ _ _ _ => pts_nil) (fun _ _ _ _ _ => (pe_callTy (CallR.or SkE.call_str_str call_str_int) (by rfl) T.n_str (by decide +kernel) (pa_cons (pv 1) pa_nil))))))), ?_⟩
    cases g with
    | leaf z ns =>
      obtain ⟨p, rfl, hp⟩ := hG
      have hz : z ≠ ("both" : Str) := (isG_good k _ hg hk3).2
      and_intros
      refine iteB0 (decide_eq_false fun x => hz (V.str.inj x)) ?_
      and_intros
      refine ⟨⟨_, hp⟩, fun D nD => ?_⟩
      refine lc_tup (xs := .str z :: ns.map V.int) (fun i H' => Same H H' ∧ H' D = some (.lst (((wordsG (.leaf z ns)).take i).map V.str))) ⟨same_upd nD, upd_same⟩ (fun i H' _ h => same_t h.1 hp) (fun i x H' hi h => ?_) (fun H' h => ?_)
      · have hl : (wordsG (.leaf z ns)).length = ns.length + 1 := by
          show (z :: ns.map strN).length = _
          rw [List.length_cons, List.length_map]
        have h4 : ns.length + 1 ≤ 2 := by
          rcases good_leaf hg with ⟨_, rfl⟩ | ⟨m, rfl, _⟩ <;> simp
        have fin : ∀ y : Str, (wordsG (.leaf z ns))[i]? = some y → ∃ acc, H' D = some (.lst acc) ∧ acc.length < sizeLine ∧ (Same H (upd H' D (.lst (acc ++ [.str y]))) ∧ (upd H' D (.lst (acc ++ [.str y]))) D = some (.lst (((wordsG (.leaf z ns)).take (i + 1)).map V.str))) := fun y hy => by
          refine ⟨_, h.2, ?_, same_mut h.1 nD, ?_⟩
          · rw [List.length_map, List.length_take]
            exact szl (by omega)
          · rw [upd_same, List.take_add_one, hy, List.map_append]
            rfl
        and_intros
        cases i with
        | zero =>
          cases Option.some.inj hi
          exact Or.inl ⟨z, rfl, fin z rfl⟩
        | succ i =>
          rw [List.getElem?_cons_succ, List.getElem?_map] at hi
          cases e : ns[i]? with
          | none => rw [e] at hi; cases hi
          | some m =>
            rw [e] at hi
            cases Option.some.inj hi
            have hm : m = 1 ∨ m = 2 ∨ m = 3 := by
              rcases good_leaf hg with ⟨_, rfl⟩ | ⟨m', rfl, hm', _⟩
              · cases e
              · cases i with
                | zero => cases Option.some.inj e; exact hm'
                | succ i => cases e
            refine Or.inr ⟨m, rfl, natAbs_log hm, fin (strN m) ?_⟩
            show (z :: ns.map strN)[i + 1]? = _
            rw [List.getElem?_cons_succ, List.getElem?_map, e]
            rfl
      · refine q D H' h.1 nD ?_
        rw [h.2, List.take_of_length_le]
        show (z :: ns.map strN).length ≤ _
        rw [List.length_cons, List.length_cons, List.length_map, List.length_map]
        exact Nat.le_refl _
    | both a b =>
      cases k with
      | zero => simp [good] at hg
      | succ k =>
      obtain ⟨p, x, y, rfl, hp, ha, hb⟩ := hG
      have h' : (good k a && good k b) = true := hg
      rw [Bool.and_eq_true] at h'
      have w1 := wt_words k a h'.1
      have w2 := wt_words k b h'.2
      have w3 : 2 ^ k ≤ 8 := by
        have : k = 0 ∨ k = 1 ∨ k = 2 := by omega
        rcases this with rfl | rfl | rfl <;> decide
      unfold wt at w1 w2
      and_intros
      intro l0 n0
      have hp0 := same_t (same_upd (o := .lst [.str "both"]) n0) hp
      and_intros
      refine ⟨x, a, k, rfl, ha.same (same_upd n0), h'.1, by omega, by omega, fun l1 H1 s1 n1 e1 => ?_⟩
      refine ⟨_, _, _, _, rfl, rfl, (by infer_instance), e1, (by rw [List.length_map]; exact sz (by show 1 + _ ≤ _; omega)), fun l2 n2 => ?_⟩
      have hp2 := same_t (same_upd (o := .lst ([.str "both"] ++ (wordsG a).map V.str)) n2) (same_t s1 hp0)
      and_intros
      refine ⟨y, b, k, rfl, ((hb.same (same_upd n0)).same s1).same (same_upd n2), h'.2, by omega, by omega, fun l3 H3 s3 n3 e3 => ?_⟩
      refine ⟨_, _, _, _, rfl, rfl, (by infer_instance), e3, (by rw [List.length_append, List.length_map, List.length_map]; exact sz (by show (1 + _) + _ ≤ _; omega)), fun l4 n4 => ?_⟩
      refine q l4 _ (by ac_rfl) ?_ ?_
      · have z : Same H H3 := by ac_rfl
        exact z.free n4
      · rw [upd_same]
        show some (HO.lst (([V.str "both"] ++ (wordsG a).map V.str) ++ (wordsG b).map V.str)) = some (.lst ((("both" : Str) :: (wordsG a ++ wordsG b)).map V.str))
        rw [List.map_cons, List.map_append]
        rfl
    | _ => simp [good] at hg
def spWritten (K : PySem.W.Frag) : Sp := fun vs H Q _ => ∃ (v : V) (g : G), vs = [v] ∧ IsG K H g v ∧ good 3 g = true ∧ ∀ H', Same H H' → Q (.str (textG g)) H'
theorem ok_written (T : Nms mg) (B : Tab K w mg dS dM) (D_is_guesser : Df K mg "is_guesser" s_is_guesser p_is_guesser fI fdI) (D_need_guesser : Df K mg "need_guesser" s_need_guesser p_need_guesser fN fdN) (D_words_of : Df K mg "words_of" s_words_of p_words_of f fd)
    {f2 : Addr} {fd2 : FuncData} (F : Fun K "written" "written" s_written f2 fd2) : FnOk P w K mg base CX0 7 f2 fd2 p_written (spWritten K) := by
  have G_words_of : FnOk P w K mg base CX0 4 f fd p_words_of (spWords K 4) := ok_words_of T D_words_of 4
  have G_need_guesser : FnOk P w K mg base CX0 6 fN fdN p_need_guesser (spNeedG K) := ok_need_guesser T B D_is_guesser D_need_guesser
  refine F.ok sc_written (fun vs H Q E h => ?_) (fun cdv A outer s H vs Q E hr h => ?_)
  · obtain ⟨r, m, rfl, _⟩ := h
    rfl
  obtain ⟨v, g, rfl, hG, hg, q⟩ := h
  refine ⟨_, (pss_cons (ps_expr (pe_call G_need_guesser (hr.mono (by first | decide | omega)) (by rfl) D_need_guesser.m D_need_guesser.F.kp D_need_guesser.b .nil pass0 (pa_cons (pv 0) pa_nil)))
  (pss_one (ps_ret (pe_join pe_str (pe_call G_words_of (hr.mono (by first | decide | omega)) (by rfl) D_words_of.m D_words_of.F.kp D_words_of.b .nil pass0 (pa_cons (pv 0) pa_nil)))))), ?_⟩
  and_intros
  refine ⟨v, g, rfl, hG, hg, fun H1 s1 => ?_⟩
  and_intros
  refine ⟨⟨_, rfl⟩, v, rfl, v, g, 3, rfl, hG.same s1, hg, by omega, by omega, fun l H2 s2 n2 e2 => ?_⟩
  refine ⟨_, _, _, rfl, rfl, .inl (sql e2), ?_, ?_⟩
  · have z := wt_words 3 g hg
    unfold wt at z
    have e : (" " : Str).length = 1 := rfl
    rw [e]
    omega
  · rw [← text_join 3 g hg]
    exact q _ (s1.trans s2)
end
end St

namespace St
open PySem PySem.Spec PyProof.Rows L2 TL
abbrev s_part_at : Stmt := topS 14
abbrev N_part_at : List Str := ["words", "at", "one", "behind", "other"]
abbrev p_part_at : List Str := ["words", "at"]
theorem sc_part_at : FnScope N_part_at p_part_at (defScope s_part_at) := ⟨rfl, rfl, rfl, by decide +kernel, rfl, by decide +kernel, by decide +kernel⟩
abbrev s_read : Stmt := topS 15
abbrev N_read : List Str := ["text", "words", "found", "behind"]
abbrev p_read : List Str := ["text"]
theorem sc_read : FnScope N_read p_read (defScope s_read) := ⟨rfl, rfl, rfl, by decide +kernel, rfl, by decide +kernel, by decide +kernel⟩
theorem drop_hd {α : Type} {ws : List α} {k : Nat} {y : α} {r : List α} (h : ws.drop k = y :: r) : ws[k]? = some y ∧ k < ws.length ∧ ws.drop (k + 1) = r := by
  have hk : k < ws.length := by
    refine Nat.lt_of_not_le fun z => ?_
    rw [List.drop_eq_nil_of_le z] at h
    cases h
  rw [List.drop_eq_getElem_cons hk] at h
  injection h with h1 h2
  exact ⟨by rw [List.getElem?_eq_getElem hk, h1], hk, h2⟩
theorem at_str {ws : List Str} {k : Nat} {y : Str} (h : ws[k]? = some y) : atI (ws.map V.str) (k : Int) = some (.str y) := atI_nat (by rw [List.getElem?_map, h]; rfl)
theorem num_facts {m : Int} (h : m = 1 ∨ m = 2 ∨ m = 3) : (strN m).length = 1 ∧ (∃ c : Nat, strN m = ⟨#[c]⟩ ∧ c ∈ ("0123456789" : Str).cps.toList) ∧ intText? (strN m) = some m := by
  rcases h with rfl | rfl | rfl
  · exact ⟨by decide, ⟨49, by decide, by decide⟩, int_num (n := 1) (by decide)⟩
  · exact ⟨by decide, ⟨50, by decide, by decide⟩, int_num (n := 2) (by decide)⟩
  · exact ⟨by decide, ⟨51, by decide, by decide⟩, int_num (n := 3) (by decide)⟩
section
variable {P : Program} {w : World} {K : PySem.W.Frag} {mg : Str → Option Value} {base : Heap} {f dS dM fI fN : Addr} {fd fdI fdN : FuncData}
def spPart (K : PySem.W.Frag) (n : Nat) : Sp := fun vs H Q _ => ∃ (l : Addr) (k : Nat) (ws : List Str) (g : G) (d : Nat) (post : List Str), vs = [.ref l, .int (k : Int)] ∧ SqL K H l (ws.map V.str) ∧ ws.drop k = wordsG g ++ post ∧ good d g = true ∧ d < n ∧ d ≤ 3 ∧
  ∀ (p : Addr) (v : V) H', Same H H' → IsG K H' g v → H' p = some (.tup [v, .int ((k + (wordsG g).length : Nat) : Int)]) → Q (.ref p) H'
theorem ok_part_at (T : Nms mg) (B : Tab K w mg dS dM) (hF : ∃ t, mg "FIGURES" = some (.str "0123456789" t)) (D_part_at : Df K mg "part_at" s_part_at p_part_at f fd) : ∀ n : Nat, FnOk P w K mg base CX0 n f fd p_part_at (spPart K n)
  | 0 => fn_zero fun vs H Q E ⟨l, k, ws, g, d, post, _, _, _, _, h, _⟩ => by omega
  | n + 1 => by
    have G_part_at := ok_part_at T B hF D_part_at n
    refine D_part_at.F.ok sc_part_at (fun vs H Q E h => ?_) (fun cdv A outer s H vs Q E hr h => ?_)
    · obtain ⟨r, m, ws, g, d, post, rfl, _⟩ := h
      rfl
    obtain ⟨l, k, ws, g, d, post, rfl, hl, hd, hg, hdn, hd3, q⟩ := h
    refine ⟨_, (pss_cons (ps_if (PW.pt (pw_or (pt_cmpR op_ge (pv 1) (pe_callB call_len_seq (by rfl) T.n_len (by decide +kernel) (pa_cons (pv 0) pa_nil)) (nomark _)) (pw_or1 (pt_cmpR (op_notIn_id B.i_SORTS) (pe_ix ix_list (pv 0) (pv 1) (fun _ _ => rfl)) (pe_gref (by rfl) B.g_SORTS) (by with_unfolding_all rfl)))))
    (pss_one (ps_never))
    (pss_nil))
  (pss_cons (ps_if (pt_cmpR op_eq (pe_ix ix_list (pv 0) (pv 1) (fun _ _ => rfl)) pe_str (nomark _))
    (pss_one (ps_ret (pe_tup (pa_cons (pe_tup (pa_cons pe_str pa_nil)) (pa_cons (pe_op op_add (pv 1) pe_int) pa_nil)))))
    (pss_nil))
  (pss_cons (ps_if (pt_cmpR op_eq (pe_ix ix_list (pv 0) (pv 1) (fun _ _ => rfl)) pe_str (nomark _))
    (pss_cons (ps_asg (pe_call G_part_at (hr.mono (by first | decide | omega)) (by rfl) D_part_at.m D_part_at.F.kp D_part_at.b .nil pass0 (pa_cons (pv 0) (pa_cons (pe_op op_add (pv 1) pe_int) pa_nil))) (pg_tup rfl (pgs_cons (pg_name (i := 2) sc_part_at.nd rfl (Or.inl rfl)) (pgs_cons (pg_name (i := 3) sc_part_at.nd rfl (Or.inl rfl)) pgs_nil))))
    (pss_cons (ps_asg (pe_call G_part_at (hr.mono (by first | decide | omega)) (by rfl) D_part_at.m D_part_at.F.kp D_part_at.b .nil pass0 (pa_cons (pv 0) (pa_cons (pv 3) pa_nil))) (pg_tup rfl (pgs_cons (pg_name (i := 4) sc_part_at.nd rfl (Or.inl rfl)) (pgs_cons (pg_name (i := 3) sc_part_at.nd rfl (Or.inl rfl)) pgs_nil))))
    (pss_one (ps_ret (pe_tup (pa_cons (pe_tup (pa_cons pe_str (pa_cons (pv 2) (pa_cons (pv 4) pa_nil)))) (pa_cons (pv 3) pa_nil)))))))
    (pss_nil))
  (pss_cons (ps_if (PW.pt (pw_or (pt_cmpR op_ge (pe_op op_add (pv 1) pe_int) (pe_callB call_len_seq (by rfl) T.n_len (by decide +kernel) (pa_cons (pv 0) pa_nil)) (nomark _)) (pw_or (pt_cmpR op_ne (pe_callB call_len_str (by rfl) T.n_len (by decide +kernel) (pa_cons (pe_ix ix_list (pv 0) (pe_op op_add (pv 1) pe_int) (fun _ _ => rfl)) pa_nil)) pe_int (nomark _)) (pw_or1 (pt_cmpR op_notIn_sign (pe_ix ix_list (pv 0) (pe_op op_add (pv 1) pe_int) (fun _ _ => rfl)) (pe_gstr (by rfl) hF) (by with_unfolding_all rfl))))))
    (pss_one (ps_never))
    (pss_nil))
  (pss_one (ps_ret (pe_tup (pa_cons (pe_tup (pa_cons (pe_ix ix_list (pv 0) (pv 1) (fun _ _ => rfl)) (pa_cons (pe_callTy call_int_str (by rfl) T.n_int (by decide +kernel) (pa_cons (pe_ix ix_list (pv 0) (pe_op op_add (pv 1) pe_int) (fun _ _ => rfl)) pa_nil)) pa_nil))) (pa_cons (pe_op op_add (pv 1) pe_int) pa_nil))))))))), ?_⟩
    cases g with
    | leaf z ns =>
      obtain ⟨e0, k0, d1⟩ := drop_hd (show ws.drop k = z :: (ns.map strN ++ post) from hd)
      have hz : z ≠ ("both" : Str) := (isG_good d _ hg hd3).2
      have a0 : atI (ws.map V.str) (k : Int) = some (.str z) := at_str e0
      have hlen : (((ws.map V.str).length : Nat) : Int) = (ws.length : Int) := by rw [List.length_map]
      and_intros
      refine iteB0 (decide_eq_false (by rw [hlen]; omega)) ?_
      and_intros
      refine ⟨_, _, _, _, rfl, rfl, hl, a0, ?_⟩
      and_intros
      rcases good_leaf hg with ⟨rfl, rfl⟩ | ⟨m, rfl, hm, hw⟩
      · and_intros
        refine ⟨_, _, _, _, rfl, rfl, hl, a0, ?_⟩
        and_intros
        intro p1 n1
        and_intros
        intro p2 n2
        exact q p2 (.ref p1) _ (by ac_rfl) ⟨p1, rfl, (by infer_instance)⟩ upd_same
      · have hs : (sortsL.lookup z).isSome = true ∧ z ≠ ("none" : Str) := by rcases hw with rfl | rfl | rfl <;> decide
        refine iteB0 (by rw [hs.1]; rfl) ?_
        and_intros
        refine ⟨_, _, _, _, rfl, rfl, hl, a0, ?_⟩
        and_intros
        refine iteB0 (decide_eq_false fun x => hs.2 (V.str.inj x)) ?_
        and_intros
        refine ⟨_, _, _, _, rfl, rfl, hl, a0, ?_⟩
        and_intros
        refine iteB0 (decide_eq_false fun x => hz (V.str.inj x)) ?_
        obtain ⟨e1, k1, d2⟩ := drop_hd (show ws.drop (k + 1) = strN m :: post from d1)
        have a1 : atI (ws.map V.str) ((k : Int) + 1) = some (.str (strN m)) := at_str e1
        and_intros
        refine iteB0 (decide_eq_false (by rw [hlen]; omega)) ?_
        and_intros
        refine ⟨_, _, _, _, rfl, rfl, hl, a1, ?_⟩
        and_intros
        obtain ⟨f1, ⟨c, f2, f3⟩, f4⟩ := num_facts hm
        refine ⟨by rw [f1]; exact sz (by decide), ?_⟩
        and_intros
        refine iteB0 (by rw [f1]; decide) ?_
        and_intros
        refine ⟨_, _, _, _, rfl, rfl, hl, a1, ?_⟩
        and_intros
        refine ⟨c, _, congrArg V.str f2, rfl, ?_⟩
        and_intros
        refine iteB0 (by rw [decide_eq_true f3]; rfl) ?_
        and_intros
        refine ⟨_, _, _, _, rfl, rfl, hl, a0, ?_⟩
        and_intros
        refine ⟨_, _, _, _, rfl, rfl, hl, a1, ?_⟩
        and_intros
        refine ⟨_, m, rfl, f4, by rw [f1]; decide, ?_⟩
        and_intros
        intro p1 n1
        and_intros
        intro p2 n2
        exact q p2 (.ref p1) _ (by ac_rfl) ⟨p1, rfl, (by infer_instance)⟩ upd_same
    | both a b =>
      cases d with
      | zero => simp [good] at hg
      | succ d =>
      have h' : (good d a && good d b) = true := hg
      rw [Bool.and_eq_true] at h'
      obtain ⟨e0, k0, d1⟩ := drop_hd (show ws.drop k = ("both" : Str) :: ((wordsG a ++ wordsG b) ++ post) from hd)
      have a0 : atI (ws.map V.str) (k : Int) = some (.str "both") := at_str e0
      have hlen : (((ws.map V.str).length : Nat) : Int) = (ws.length : Int) := by rw [List.length_map]
      rw [List.append_assoc] at d1
      have d2 : ws.drop (k + 1 + (wordsG a).length) = wordsG b ++ post := by
        rw [← List.drop_drop, d1, List.drop_left]
      and_intros
      refine iteB0 (decide_eq_false (by rw [hlen]; omega)) ?_
      and_intros
      refine ⟨_, _, _, _, rfl, rfl, hl, a0, ?_⟩
      and_intros
      refine ⟨_, _, _, _, rfl, rfl, hl, a0, ?_⟩
      and_intros
      refine ⟨_, _, _, _, rfl, rfl, hl, a0, ?_⟩
      and_intros
      refine ⟨l, k + 1, ws, a, d, _, rfl, hl, d1, h'.1, by omega, by omega, fun p1 v1 H1 s1 g1 e1 => ?_⟩
      refine ⟨p1, _, rfl, sqt e1, rfl, _, _, rfl, _, _, rfl, rfl, ?_⟩
      and_intros
      refine ⟨l, k + 1 + (wordsG a).length, ws, b, d, _, rfl, same_l s1 hl, d2, h'.2, by omega, by omega, fun p2 v2 H2 s2 g2 e2 => ?_⟩
      refine ⟨p2, _, rfl, sqt e2, rfl, _, _, rfl, _, _, rfl, rfl, ?_⟩
      and_intros
      intro p3 n3
      and_intros
      intro p4 n4
      have ek : k + 1 + (wordsG a).length + (wordsG b).length = k + (wordsG (.both a b)).length := by
        show _ = k + (("both" : Str) :: (wordsG a ++ wordsG b)).length
        rw [List.length_cons, List.length_append]
        omega
      rw [← ek] at q
      exact q p4 (.ref p3) _ (by ac_rfl) ⟨p3, v1, v2, rfl, (by infer_instance), (g1.same s2).same (by ac_rfl), g2.same (by ac_rfl)⟩ upd_same
    | _ => simp [good] at hg
/-- what was written is read -/
def spRead (K : PySem.W.Frag) : Sp := fun vs H Q _ => ∃ (g : G), vs = [.str (textG g)] ∧ good 3 g = true ∧ ∀ v H', Same H H' → IsG K H' g v → Q v H'
theorem text_ne {g : G} (h : good 3 g = true) : textG g ≠ ("" : Str) := by
  intro e
  have r := read_back h
  rw [e] at r
  have z : Txt.split ("" : Str) " " = [("" : Str)] := by decide +kernel
  rw [z] at r
  have n := words_no32 3 g h
  cases g with
  | leaf w ns =>
    have e2 : w = ("" : Str) := by
      have : [("" : Str)] = w :: ns.map strN := r
      injection this with e1 _
      exact e1.symm
    rcases good_leaf h with ⟨rfl, _⟩ | ⟨_, _, _, hw⟩
    · exact absurd e2 (by decide)
    · rcases hw with rfl | rfl | rfl <;> exact absurd e2 (by decide)
  | both a b =>
    have : [("" : Str)] = ("both" : Str) :: (wordsG a ++ wordsG b) := r
    injection this with e1 _
    exact absurd e1 (by decide)
  | nil => simp [good] at h
  | b1 _ => simp [good] at h
  | b3 _ _ _ => simp [good] at h
theorem ok_read (T : Nms mg) (B : Tab K w mg dS dM) (hF : ∃ t, mg "FIGURES" = some (.str "0123456789" t)) (D_is_guesser : Df K mg "is_guesser" s_is_guesser p_is_guesser fI fdI) (D_need_guesser : Df K mg "need_guesser" s_need_guesser p_need_guesser fN fdN)
    (D_part_at : Df K mg "part_at" s_part_at p_part_at f fd) {f2 : Addr} {fd2 : FuncData} (F : Fun K "read" "read" s_read f2 fd2) : FnOk P w K mg base CX0 7 f2 fd2 p_read (spRead K) := by
  have G_part_at : FnOk P w K mg base CX0 4 f fd p_part_at (spPart K 4) := ok_part_at T B hF D_part_at 4
  have G_need_guesser : FnOk P w K mg base CX0 6 fN fdN p_need_guesser (spNeedG K) := ok_need_guesser T B D_is_guesser D_need_guesser
  refine F.ok sc_read (fun vs H Q E h => ?_) (fun cdv A outer s H vs Q E hr h => ?_)
  · obtain ⟨r, rfl, _⟩ := h
    rfl
  obtain ⟨g, rfl, hg, q⟩ := h
  refine ⟨_, (pss_cons (ps_set (i := 1) sc_read.nd rfl (Or.inl rfl) (pe_ifExp (pt_cmpR op_ne (pv 0) pe_str (nomark _)) (pe_split (pv 0) pe_str) (pe_lst pa_nil)))
  (pss_cons (ps_asg (pe_call G_part_at (hr.mono (by first | decide | omega)) (by rfl) D_part_at.m D_part_at.F.kp D_part_at.b .nil pass0 (pa_cons (pv 1) (pa_cons pe_int pa_nil))) (pg_tup rfl (pgs_cons (pg_name (i := 2) sc_read.nd rfl (Or.inl rfl)) (pgs_cons (pg_name (i := 3) sc_read.nd rfl (Or.inl rfl)) pgs_nil))))
  (pss_cons (ps_if (pt_cmpR op_lt (pv 3) (pe_callB call_len_seq (by rfl) T.n_len (by decide +kernel) (pa_cons (pv 1) pa_nil)) (nomark _))
    (pss_one (ps_never))
    (pss_nil))
  (pss_cons (ps_expr (pe_call G_need_guesser (hr.mono (by first | decide | omega)) (by rfl) D_need_guesser.m D_need_guesser.F.kp D_need_guesser.b .nil pass0 (pa_cons (pv 2) pa_nil)))
  (pss_one (ps_ret (pv 2))))))), ?_⟩
  and_intros
  refine iteB (by rw [decide_eq_false fun x => text_ne hg (V.str.inj x)]; rfl) ?_
  refine ⟨_, rfl, ⟨_, rfl⟩, _, _, rfl, rfl, rfl, ?_, ?_⟩
  · have z := text_len hg
    exact sz (by omega)
  intro l nl
  rw [read_back hg]
  have hl : SqL K (upd H l (.lst ((wordsG g).map V.str))) l ((wordsG g).map V.str) := sql upd_same
  and_intros
  refine ⟨l, 0, wordsG g, g, 3, [], rfl, hl, (by rw [List.append_nil]; rfl), hg, by omega, by omega, fun p v H1 s1 g1 e1 => ?_⟩
  refine ⟨p, _, rfl, sqt e1, rfl, _, _, rfl, _, _, rfl, rfl, ?_⟩
  and_intros
  refine iteB0 (decide_eq_false (by rw [List.length_map]; omega)) ?_
  and_intros
  refine ⟨v, g, rfl, g1, hg, fun H2 s2 => ?_⟩
  and_intros
  exact q v H2 (by ac_rfl) (g1.same s2)
end
end St

namespace St
open PySem PySem.Spec PyProof.Rows L2 TL
abbrev s__law_text : Stmt := topS 20
abbrev N__law_text : List Str := ["_law_guesser_here", "_law_part"]
abbrev p__law_text : List Str := ["_law_guesser_here"]
theorem sc__law_text : FnScope N__law_text p__law_text (defScope s__law_text) := ⟨rfl, rfl, rfl, by decide +kernel, rfl, by decide +kernel, by decide +kernel⟩
section
variable {P : Program} {w : World} {K : PySem.W.Frag} {mg : Str → Option Value} {base : Heap} {f : Addr} {fd : FuncData}
def spText (K : PySem.W.Frag) (n : Nat) : Sp := fun vs H Q _ => ∃ (v : V) (g : G) (k : Nat), vs = [v] ∧ IsG K H g v ∧ good k g = true ∧ k < n ∧ k ≤ 3 ∧ ∀ H', Same H H' → Q (.str (textG g)) H'
theorem ok__law_text (T : Nms mg) (D__law_text : Df K mg "_law_text" s__law_text p__law_text f fd) : ∀ n : Nat, FnOk P w K mg base CX0 n f fd p__law_text (spText K n)
  | 0 => fn_zero fun vs H Q E ⟨v, g, k, _, _, _, h, _⟩ => by omega
  | n + 1 => by
    have G__law_text := ok__law_text T D__law_text n
    refine D__law_text.F.ok sc__law_text (fun vs H Q E h => ?_) (fun cdv A outer s H vs Q E hr h => ?_)
    · obtain ⟨r, m, wi, rfl, _⟩ := h
      rfl
    obtain ⟨v, g, k, rfl, hG, hg, hk, hk3, q⟩ := h
    refine ⟨_, (pss_cons (ps_if (pt_cmpR op_eq (pe_ix ix_tup (pv 0) pe_int (fun _ _ => rfl)) pe_str (nomark _))
    (pss_one (ps_ret (pe_op op_add_str (pe_op op_add_str (pe_op op_add_str pe_str (pe_call G__law_text (hr.mono (by first | decide | omega)) (by rfl) D__law_text.m D__law_text.F.kp D__law_text.b .nil pass0 (pa_cons (pe_ix ix_tup (pv 0) pe_int (fun _ _ => rfl)) pa_nil))) pe_str) (pe_call G__law_text (hr.mono (by first | decide | omega)) (by rfl) D__law_text.m D__law_text.F.kp D__law_text.b .nil pass0 (pa_cons (pe_ix ix_tup (pv 0) pe_int (fun _ _ => rfl)) pa_nil)))))
    (pss_nil))
  (pss_one (ps_ret (pe_join pe_str (pe_lc (own := [("_law_part", 1)]) (g := gName 1) rfl sc__law_text.nd (pi_tup (pv 0)) (blkOk_by (own := [("_law_part", 1)]) (N := N__law_text) (sc := defScope s__law_text) (by decide +kernel)) (fun _ _ _ _ _ => pg_name (i := 1) sc__law_text.nd rfl (Or.inl rfl)) (fun _ _ _ _ _ => pts_nil) (fun _ _ _ _ _ => (pe_callTy (CallR.or SkE.call_str_str call_str_int) (by rfl) T.n_str (by decide +kernel) (pa_cons (pv 1) pa_nil)))))))), ?_⟩
    cases g with
    | leaf z ns =>
      obtain ⟨p, rfl, hp⟩ := hG
      have hz : z ≠ ("both" : Str) := (isG_good k _ hg hk3).2
      and_intros
      refine iteB0 (decide_eq_false fun x => hz (V.str.inj x)) ?_
      and_intros
      refine ⟨⟨_, rfl⟩, ?_⟩
      and_intros
      refine ⟨⟨_, hp⟩, fun D nD => ?_⟩
      refine lc_tup (xs := .str z :: ns.map V.int) (fun i H' => Same H H' ∧ H' D = some (.lst (((wordsG (.leaf z ns)).take i).map V.str))) ⟨same_upd nD, upd_same⟩ (fun i H' _ h => same_t h.1 hp) (fun i x H' hi h => ?_) (fun H' h => ?_)
      · have hl : (wordsG (.leaf z ns)).length = ns.length + 1 := by
          show (z :: ns.map strN).length = _
          rw [List.length_cons, List.length_map]
        have h4 : ns.length + 1 ≤ 2 := by
          rcases good_leaf hg with ⟨_, rfl⟩ | ⟨m, rfl, _⟩ <;> simp
        have fin : ∀ y : Str, (wordsG (.leaf z ns))[i]? = some y → ∃ acc, H' D = some (.lst acc) ∧ acc.length < sizeLine ∧ (Same H (upd H' D (.lst (acc ++ [.str y]))) ∧ (upd H' D (.lst (acc ++ [.str y]))) D = some (.lst (((wordsG (.leaf z ns)).take (i + 1)).map V.str))) := fun y hy => by
          refine ⟨_, h.2, ?_, same_mut h.1 nD, ?_⟩
          · rw [List.length_map, List.length_take]
            exact szl (by omega)
          · rw [upd_same, List.take_add_one, hy, List.map_append]
            rfl
        and_intros
        cases i with
        | zero =>
          cases Option.some.inj hi
          exact Or.inl ⟨z, rfl, fin z rfl⟩
        | succ i =>
          rw [List.getElem?_cons_succ, List.getElem?_map] at hi
          cases e : ns[i]? with
          | none => rw [e] at hi; cases hi
          | some m =>
            rw [e] at hi
            cases Option.some.inj hi
            have hm : m = 1 ∨ m = 2 ∨ m = 3 := by
              rcases good_leaf hg with ⟨_, rfl⟩ | ⟨m', rfl, hm', _⟩
              · cases e
              · cases i with
                | zero => cases Option.some.inj e; exact hm'
                | succ i => cases e
            refine Or.inr ⟨m, rfl, natAbs_log hm, fin (strN m) ?_⟩
            show (z :: ns.map strN)[i + 1]? = _
            rw [List.getElem?_cons_succ, List.getElem?_map, e]
            rfl
      · have e : (wordsG (.leaf z ns)).take (V.str z :: ns.map V.int).length = wordsG (.leaf z ns) := by
          rw [List.take_of_length_le]
          show (z :: ns.map strN).length ≤ _
          rw [List.length_cons, List.length_cons, List.length_map, List.length_map]
          exact Nat.le_refl _
        rw [e] at h
        refine ⟨_, _, _, rfl, rfl, .inl (sql h.2), ?_, q _ h.1⟩
        have z := wt_words k _ hg
        unfold wt at z
        have e : (" " : Str).length = 1 := rfl
        have w3 : 2 ^ k ≤ 8 := by
          have : k = 0 ∨ k = 1 ∨ k = 2 ∨ k = 3 := by omega
          rcases this with rfl | rfl | rfl | rfl <;> decide
        rw [e]
        omega
    | both a b =>
      cases k with
      | zero => simp [good] at hg
      | succ k =>
      obtain ⟨p, x, y, rfl, hp, ha, hb⟩ := hG
      have h' : (good k a && good k b) = true := hg
      rw [Bool.and_eq_true] at h'
      have w1 := text_len h'.1
      have w2 := text_len h'.2
      have w3 : 2 ^ k ≤ 8 := by
        have : k = 0 ∨ k = 1 ∨ k = 2 := by omega
        rcases this with rfl | rfl | rfl <;> decide
      have e5 : ("both " : Str).length = 5 := rfl
      have e1 : (" " : Str).length = 1 := rfl
      and_intros
      refine ⟨x, a, k, rfl, ha, h'.1, by omega, by omega, fun H1 s1 => ?_⟩
      refine ⟨_, _, rfl, rfl, by rw [e5]; exact sz (by omega), ?_⟩
      refine ⟨_, _, rfl, rfl, by rw [len_app, e5, e1]; exact sz (by omega), ?_⟩
      have hp1 := same_t s1 hp
      and_intros
      refine ⟨y, b, k, rfl, hb.same s1, h'.2, by omega, by omega, fun H2 s2 => ?_⟩
      refine ⟨_, _, rfl, rfl, by rw [len_app, len_app, e5, e1]; exact sz (by omega), ?_⟩
      exact q H2 (s1.trans s2)
    | _ => simp [good] at hg
end
end St

namespace St
open PySem PySem.Spec PyProof.Rows L2
abbrev s__law_alike : Stmt := topS 18
abbrev N__law_alike : List Str := ["_law_found", "_law_due", "_law_k"]
abbrev p__law_alike : List Str := ["_law_found", "_law_due"]
theorem sc__law_alike : FnScope N__law_alike p__law_alike (defScope s__law_alike) := ⟨rfl, rfl, rfl, by decide +kernel, rfl, by decide +kernel, by decide +kernel⟩
section
variable {P : Program} {w : World} {K : PySem.W.Frag} {mg : Str → Option Value} {base : Heap} {f : Addr} {fd : FuncData}
theorem ok__law_alike (T : Nms mg) (D__law_alike : Df K mg "_law_alike" s__law_alike p__law_alike f fd) : ∀ n : Nat, FnOk P w K mg base CX0 n f fd p__law_alike (spAlike K n)
  | 0 => fn_zero fun vs H Q E ⟨v1, v2, d, _, _, _, h, _⟩ => h
  | n + 1 => by
    have G__law_alike := ok__law_alike T D__law_alike n
    refine D__law_alike.F.ok sc__law_alike (fun vs H Q E h => ?_) (fun cdv A outer s H vs Q E hr h => ?_)
    · obtain ⟨r, m, wi, rfl, _⟩ := h
      rfl
    obtain ⟨v1, v2, d, rfl, h1, h2, hd, q⟩ := h
    refine ⟨_, (pss_cons (ps_if (PW.pt (pw_or (pt_val (pe_callB call_isi (by rfl) T.n_isinstance (by decide +kernel) (pa_cons (pv 1) (pa_cons (pe_bltn (v := .ty "tuple") (u := .type "tuple") (by rfl) T.n_tuple (by decide +kernel) rfl) pa_nil)))) (pw_or1 (pt_val (pe_callB call_isi (by rfl) T.n_isinstance (by decide +kernel) (pa_cons (pv 1) (pa_cons (pe_bltn (v := .ty "list") (u := .type "list") (by rfl) T.n_list (by decide +kernel) rfl) pa_nil)))))))
    (pss_cons (ps_if (PW.pt (pw_or (pt_cmpR op_ne (pe_callB call_isi (by rfl) T.n_isinstance (by decide +kernel) (pa_cons (pv 0) (pa_cons (pe_bltn (v := .ty "tuple") (u := .type "tuple") (by rfl) T.n_tuple (by decide +kernel) rfl) pa_nil))) (pe_callB call_isi (by rfl) T.n_isinstance (by decide +kernel) (pa_cons (pv 1) (pa_cons (pe_bltn (v := .ty "tuple") (u := .type "tuple") (by rfl) T.n_tuple (by decide +kernel) rfl) pa_nil))) (nomark _)) (pw_or1 (pt_not (pt_val (pe_callB call_isiT (by rfl) T.n_isinstance (by decide +kernel) (pa_cons (pv 0) (pa_cons (pe_tup (pa_cons (pe_bltn (v := .ty "tuple") (u := .type "tuple") (by rfl) T.n_tuple (by decide +kernel) rfl) (pa_cons (pe_bltn (v := .ty "list") (u := .type "list") (by rfl) T.n_list (by decide +kernel) rfl) pa_nil))) pa_nil))))))))
      (pss_one (ps_ret pe_bl))
      (pss_nil))
    (pss_cons (ps_if (pt_cmpR op_ne (pe_callB call_len_seq (by rfl) T.n_len (by decide +kernel) (pa_cons (pv 0) pa_nil)) (pe_callB call_len_seq (by rfl) T.n_len (by decide +kernel) (pa_cons (pv 1) pa_nil)) (nomark _))
      (pss_one (ps_ret pe_bl))
      (pss_nil))
    (pss_one (ps_ret (pe_cmpR (op_eqD hr.units) (pe_lc (own := [("_law_k", 2)]) (g := gName 2) rfl sc__law_alike.nd (pi_range1 rfl T.n_range (pa_cons (pe_callB call_len_seq (by rfl) T.n_len (by decide +kernel) (pa_cons (pv 1) pa_nil)) pa_nil)) (blkOk_by (own := [("_law_k", 2)]) (N := N__law_alike) (sc := defScope s__law_alike) (by decide +kernel)) (fun _ _ _ _ _ => pg_name (i := 2) sc__law_alike.nd rfl (Or.inl rfl)) (fun _ _ _ _ _ => pts_one (pt_not (pt_val (pe_call G__law_alike (hr.mono (by first | decide | omega)) (by rfl) D__law_alike.m D__law_alike.F.kp D__law_alike.b .nil pass0 (pa_cons (pe_ix (ix_seqK (K := K)) (pv 0) (pv 2) (fun _ _ => rfl)) (pa_cons (pe_ix (ix_seqK (K := K)) (pv 1) (pv 2) (fun _ _ => rfl)) pa_nil)))))) (fun _ _ _ _ _ => (pv 2))) (pe_lst pa_nil) (nomark _))))))
    (pss_nil))
  (pss_cons (ps_if (PW.pt (pw_or (pt_cmpR op_isN (pv 1) pe_non (nomark _)) (pw_or1 (pt_cmpR op_isN (pv 0) pe_non (nomark _)))))
    (pss_one (ps_ret (pe_and (pe_cmpR op_isN (pv 1) pe_non (nomark _)) (pe_one (pe_cmpR op_isN (pv 0) pe_non (nomark _))))))
    (pss_nil))
  (pss_cons (ps_if (PW.pt (pw_or (pt_val (pe_callB call_isi (by rfl) T.n_isinstance (by decide +kernel) (pa_cons (pv 1) (pa_cons (pe_bltn (v := .ty "bool") (u := .type "bool") (by rfl) T.n_bool (by decide +kernel) rfl) pa_nil)))) (pw_or1 (pt_val (pe_callB call_isi (by rfl) T.n_isinstance (by decide +kernel) (pa_cons (pv 0) (pa_cons (pe_bltn (v := .ty "bool") (u := .type "bool") (by rfl) T.n_bool (by decide +kernel) rfl) pa_nil)))))))
    (pss_one (ps_ret (pe_and (pe_callB call_isi (by rfl) T.n_isinstance (by decide +kernel) (pa_cons (pv 1) (pa_cons (pe_bltn (v := .ty "bool") (u := .type "bool") (by rfl) T.n_bool (by decide +kernel) rfl) pa_nil))) (pe_and (pe_callB call_isi (by rfl) T.n_isinstance (by decide +kernel) (pa_cons (pv 0) (pa_cons (pe_bltn (v := .ty "bool") (u := .type "bool") (by rfl) T.n_bool (by decide +kernel) rfl) pa_nil))) (pe_one (pe_cmpR op_eq (pv 0) (pv 1) (nomark _)))))))
    (pss_nil))
  (pss_cons (ps_if (pt_val (pe_callB call_isi (by rfl) T.n_isinstance (by decide +kernel) (pa_cons (pv 1) (pa_cons (pe_bltn (v := .ty "str") (u := .type "str") (by rfl) T.n_str (by decide +kernel) rfl) pa_nil))))
    (pss_one (ps_ret (pe_and (pe_callB call_isi (by rfl) T.n_isinstance (by decide +kernel) (pa_cons (pv 0) (pa_cons (pe_bltn (v := .ty "str") (u := .type "str") (by rfl) T.n_str (by decide +kernel) rfl) pa_nil))) (pe_one (pe_cmpR op_eq (pv 0) (pv 1) (nomark _))))))
    (pss_nil))
  (pss_one (ps_ret (pe_and (pe_callB call_isi (by rfl) T.n_isinstance (by decide +kernel) (pa_cons (pv 0) (pa_cons (pe_bltn (v := .ty "int") (u := .type "int") (by rfl) T.n_int (by decide +kernel) rfl) pa_nil))) (pe_one (pe_cmpR op_eq (pv 0) (pv 1) (nomark _)))))))))), ?_⟩
    cases d with
    | none =>
      cases h1; cases h2
      have t2 : TyX K H .non (.type "NoneType") := .base .non
      and_intros
      exact q _ (Same.refl _)
    | bool b =>
      cases h1; cases h2
      have t2 : TyX K H (.bl b) (.type "bool") := .base (.bl b)
      and_intros
      rw [decide_eq_true rfl]
      exact q _ (Same.refl _)
    | int b =>
      cases h1; cases h2
      have t2 : TyX K H (.int b) (.type "int") := .base (.int b)
      and_intros
      rw [decide_eq_true rfl]
      exact q _ (Same.refl _)
    | str b =>
      cases h1; cases h2
      have t2 : TyX K H (.str b) (.type "str") := .base (.str b)
      and_intros
      rw [decide_eq_true rfl]
      exact q _ (Same.refl _)
    | dict _ => cases h1
    | list ds =>
      cases h1 with
      | @lst a1 xs1 _ l1 al1 =>
      cases h2 with
      | @lst a2 xs2 _ l2 al2 =>
      have t1 : TyX K H (.ref a1) (.type "list") := tyx_L l1
      have t2 : TyX K H (.ref a2) (.type "list") := tyx_L l2
      and_intros
      intro T nT
      have e1 := dlen al1
      have e2 := dlen al2
      have hlen : ds.length ≤ 100000 := hd.1
      have l1' := same_l (same_upd (o := .tup [.ty "tuple", .ty "list"]) nT) l1
      have l2' := same_l (same_upd (o := .tup [.ty "tuple", .ty "list"]) nT) l2
      have sT : Same H (upd H T (.tup [.ty "tuple", .ty "list"])) := same_upd nT
      refine ⟨_, _, _, _, _, true, rfl, upd_same, .cons (.ty _) (.cons (.ty _) .nil), tyx_L l1', tup_list (.inr rfl), ?_⟩
      generalize upd H T (.tup [.ty "tuple", .ty "list"]) = H1 at l1' l2' sT ⊢
      and_intros
      refine iteB0 (by rw [e1, e2, decide_eq_true rfl]; rfl) ?_
      and_intros
      intro D nD
      refine lc_range (lo := 0) (n := (((xs2.length : Nat) : Int)).toNat) (fun i H' => Same H1 H' ∧ H' D = some (.lst [])) ⟨same_upd nD, upd_same⟩ (fun i H' hi h => ?_) (fun H' h => ?_)
      · have hi' : i < ds.length := by omega
        obtain ⟨x1, g1, p1⟩ := dat al1 (List.getElem?_eq_getElem hi')
        obtain ⟨x2, g2, p2⟩ := dat al2 (List.getElem?_eq_getElem hi')
        have z : ((0 : Int) + (i : Int)) = ((i : Nat) : Int) := by omega
        rw [z]
        and_intros
        refine .inl ⟨_, _, _, _, rfl, rfl, same_l h.1 l1', atI_nat g1, ?_⟩
        and_intros
        refine .inl ⟨_, _, _, _, rfl, rfl, same_l h.1 l2', atI_nat g2, ?_⟩
        have sH : Same H H' := sT.trans h.1
        refine ⟨x1, x2, ds[i], rfl, dsame p1 sH, dsame p2 sH, hd.2 _ (List.getElem_mem hi'), fun H2 s2 => ?_⟩
        and_intros
        exact ⟨h.1.trans s2, s2 _ _ h.2⟩
      · and_intros
        intro L nL
        refine ⟨.list [], .list [], .lst (sql (same_upd nL _ _ h.2)) .nil, .lst (sql upd_same) .nil, rfl, rfl, ?_⟩
        exact q _ ((sT.trans h.1).trans (same_upd nL))
    | tuple ds =>
      cases h1 with
      | @tup a1 xs1 _ l1 al1 =>
      cases h2 with
      | @tup a2 xs2 _ l2 al2 =>
      have t1 : TyX K H (.ref a1) (.type "tuple") := tyx_T l1
      have t2 : TyX K H (.ref a2) (.type "tuple") := tyx_T l2
      and_intros
      intro T nT
      have e1 := dlen al1
      have e2 := dlen al2
      have hlen : ds.length ≤ 100000 := hd.1
      have l1' := same_t (same_upd (o := .tup [.ty "tuple", .ty "list"]) nT) l1
      have l2' := same_t (same_upd (o := .tup [.ty "tuple", .ty "list"]) nT) l2
      have sT : Same H (upd H T (.tup [.ty "tuple", .ty "list"])) := same_upd nT
      refine ⟨_, _, _, _, _, true, rfl, upd_same, .cons (.ty _) (.cons (.ty _) .nil), tyx_T l1', tup_list (.inl rfl), ?_⟩
      generalize upd H T (.tup [.ty "tuple", .ty "list"]) = H1 at l1' l2' sT ⊢
      and_intros
      refine iteB0 (by rw [e1, e2, decide_eq_true rfl]; rfl) ?_
      and_intros
      intro D nD
      refine lc_range (lo := 0) (n := (((xs2.length : Nat) : Int)).toNat) (fun i H' => Same H1 H' ∧ H' D = some (.lst [])) ⟨same_upd nD, upd_same⟩ (fun i H' hi h => ?_) (fun H' h => ?_)
      · have hi' : i < ds.length := by omega
        obtain ⟨x1, g1, p1⟩ := dat al1 (List.getElem?_eq_getElem hi')
        obtain ⟨x2, g2, p2⟩ := dat al2 (List.getElem?_eq_getElem hi')
        have z : ((0 : Int) + (i : Int)) = ((i : Nat) : Int) := by omega
        rw [z]
        and_intros
        refine .inr <| .inl ⟨_, _, _, _, rfl, rfl, same_t h.1 l1', atI_nat g1, ?_⟩
        and_intros
        refine .inr <| .inl ⟨_, _, _, _, rfl, rfl, same_t h.1 l2', atI_nat g2, ?_⟩
        have sH : Same H H' := sT.trans h.1
        refine ⟨x1, x2, ds[i], rfl, dsame p1 sH, dsame p2 sH, hd.2 _ (List.getElem_mem hi'), fun H2 s2 => ?_⟩
        and_intros
        exact ⟨h.1.trans s2, s2 _ _ h.2⟩
      · and_intros
        intro L nL
        refine ⟨.list [], .list [], .lst (sql (same_upd nL _ _ h.2)) .nil, .lst (sql upd_same) .nil, rfl, rfl, ?_⟩
        exact q _ ((sT.trans h.1).trans (same_upd nL))
end
end St

namespace St
open PySem PySem.Spec PyProof.Rows L2
abbrev s__law_taken : Stmt := topS 17
abbrev N__law_taken : List Str := ["_law_row", "_law_many", "_law_cell"]
abbrev p__law_taken : List Str := ["_law_row", "_law_many"]
theorem sc__law_taken : FnScope N__law_taken p__law_taken (defScope s__law_taken) := ⟨rfl, rfl, rfl, by decide +kernel, rfl, by decide +kernel, by decide +kernel⟩
section
variable {P : Program} {w : World} {K : PySem.W.Frag} {mg : Str → Option Value} {base : Heap} {f : Addr} {fd : FuncData}
theorem ok__law_taken (F : Fun K "_law_taken" "_law_taken" s__law_taken f fd) (T : Nms mg) : FnOk P w K mg base CX0 1 f fd p__law_taken (spTaken K) := by
  refine F.ok sc__law_taken (fun vs H Q E h => ?_) (fun cdv A outer s H vs Q E hr h => ?_)
  · obtain ⟨r, m, rfl, _⟩ := h
    rfl
  obtain ⟨r, m, rfl, ⟨sc, ns, i, s, hr0, hs, h0⟩, hm, q⟩ := h
  refine ⟨_, (pss_cons (ps_asg (pe_op op_add (pe_ix ix_list (pv 0) pe_int (fun _ _ => rfl)) pe_int) (pg_sub (pv 0) pe_int set_list))
  (pss_cons (ps_if (pt_cmpR op_gt (pe_ix ix_list (pv 0) pe_int (fun _ _ => rfl)) (pe_callB call_len_seq (by rfl) T.n_len (by decide +kernel) (pa_cons (pe_ix ix_list (pv 0) pe_int (fun _ _ => rfl)) pa_nil)) (nomark _))
    (pss_cons (ps_asg (pe_op op_mod (pe_op op_add (pe_op op_mul (pe_ix ix_list (pv 0) pe_int (fun _ _ => rfl)) pe_int) pe_int) pe_int) (pg_sub (pv 0) pe_int set_list))
    (pss_one (ps_ret (pe_op op_mod (pe_op op_fdiv (pe_ix ix_list (pv 0) pe_int (fun _ _ => rfl)) pe_int) (pv 1)))))
    (pss_nil))
  (pss_cons (ps_set (i := 2) sc__law_taken.nd rfl (Or.inl rfl) (pe_ix ix_list (pe_ix ix_list (pv 0) pe_int (fun _ _ => rfl)) (pe_op op_sub (pe_ix ix_list (pv 0) pe_int (fun _ _ => rfl)) pe_int) (fun _ _ => rfl)))
  (pss_cons (ps_asg (pe_op op_mod (pe_op op_add (pe_op op_add (pe_op op_mul (pe_ix ix_list (pv 0) pe_int (fun _ _ => rfl)) pe_int) (pv 2)) pe_int) pe_int) (pg_sub (pv 0) pe_int set_list))
  (pss_one (ps_ret (pe_op op_mod (pv 2) (pv 1)))))))), ?_⟩
  have hR : SqL K H r [.ref sc, .int i, .int s] := sql hr0
  have ne : ∀ {o : HO}, Sc K (upd H r o) sc (ns.map V.int) := fun {o} => hs.imm (Imm.upd ⟨_, hr0⟩)
  have fin : ∀ (x s' : Int) (o : HO), 0 ≤ x → x < m → Q (.int x) (upd (upd H r o) r (.lst [.ref sc, .int (i + 1), .int s'])) := fun x s' o h1 h2 => by
    rw [upd_upd]
    exact q x _ h1 h2 SameX.upd ⟨sc, ns, i + 1, s', upd_same, ne, by omega⟩
  and_intros
  have hsc : SqL K (upd H r (.lst [.ref sc, .int (i + 1), .int s])) sc (ns.map V.int) := ne.sql
  and_intros
  refine ite2 (fun c => ?_) (fun c => ?_)
  · and_intros
    exact fin _ _ _ (Int.emod_nonneg _ (by omega)) (Int.emod_lt_of_pos _ hm)
  · have c' : ¬ (((ns.map V.int).length : Nat) : Int) < i + 1 := of_decide_eq_false (Bool.eq_false_iff.mpr c)
    rw [List.length_map] at c'
    and_intros
    have hat : atI (ns.map V.int) (i + 1 - 1) = some (.int (ns[i.toNat]'(by omega))) := by
      have e : i + 1 - 1 = ((i.toNat : Nat) : Int) := by omega
      rw [e]
      refine atI_nat ?_
      rw [List.getElem?_map, List.getElem?_eq_getElem (by omega)]
      rfl
    refine ⟨_, _, _, _, rfl, rfl, hsc, hat, ?_⟩
    and_intros
    exact fin _ _ _ (Int.emod_nonneg _ (by omega)) (Int.emod_lt_of_pos _ hm)
end
end St

namespace St
open PySem PySem.Spec PyProof.Rows L2
abbrev s__law_guesser : Stmt := topS 19
abbrev N__law_guesser : List Str := ["_law_row", "_law_within", "_law_way", "_law_one", "_law_sorts"]
abbrev p__law_guesser : List Str := ["_law_row", "_law_within"]
theorem sc__law_guesser : FnScope N__law_guesser p__law_guesser (defScope s__law_guesser) := ⟨rfl, rfl, rfl, by decide +kernel, rfl, by decide +kernel, by decide +kernel⟩
section
variable {P : Program} {w : World} {K : PySem.W.Frag} {mg : Str → Option Value} {base : Heap} {f fT : Addr} {fd fdT : FuncData}
theorem ok__law_guesser (T : Nms mg) (D__law_taken : Df K mg "_law_taken" s__law_taken p__law_taken fT fdT) (D__law_guesser : Df K mg "_law_guesser" s__law_guesser p__law_guesser f fd) : ∀ n : Nat, FnOk P w K mg base CX0 (n + 1) f fd p__law_guesser (spGuesser K n)
  | 0 => fn_zero fun vs H Q E ⟨r, w, _, h, _⟩ => absurd h (Nat.not_lt_zero _)
  | n + 1 => by
    have G__law_guesser := ok__law_guesser T D__law_taken D__law_guesser n
    have G__law_taken : FnOk P w K mg base CX0 1 fT fdT p__law_taken (spTaken K) := ok__law_taken D__law_taken.F T
    refine D__law_guesser.F.ok sc__law_guesser (fun vs H Q E h => ?_) (fun cdv A outer s H vs Q E hr h => ?_)
    · obtain ⟨r, m, rfl, _⟩ := h
      rfl
    obtain ⟨r, m, rfl, hm, hR, q⟩ := h
    refine ⟨_, (pss_cons (ps_set (i := 2) sc__law_guesser.nd rfl (Or.inl rfl) (pe_call G__law_taken (hr.mono (by first | decide | omega)) (by rfl) D__law_taken.m D__law_taken.F.kp D__law_taken.b .nil pass0 (pa_cons (pv 0) (pa_cons (pe_ix ix_list (pe_lst (pa_cons pe_int (pa_cons pe_int pa_nil))) (pe_callTy call_int1 (by rfl) T.n_int (by decide +kernel) (pa_cons (pe_cmpR op_gt (pv 1) pe_int (nomark _)) pa_nil)) (fun _ _ => rfl)) pa_nil))))
  (pss_cons (ps_if (pt_cmpR op_gt (pv 2) pe_int (nomark _))
    (pss_cons (ps_set (i := 3) sc__law_guesser.nd rfl (Or.inl rfl) (pe_call G__law_guesser (hr.mono (by first | decide | omega)) (by rfl) D__law_guesser.m D__law_guesser.F.kp D__law_guesser.b .nil pass0 (pa_cons (pv 0) (pa_cons (pe_op op_sub (pv 1) pe_int) pa_nil))))
    (pss_one (ps_ret (pe_tup (pa_cons pe_str (pa_cons (pv 3) (pa_cons (pe_call G__law_guesser (hr.mono (by first | decide | omega)) (by rfl) D__law_guesser.m D__law_guesser.F.kp D__law_guesser.b .nil pass0 (pa_cons (pv 0) (pa_cons (pe_op op_sub (pv 1) pe_int) pa_nil))) pa_nil)))))))
    (pss_nil))
  (pss_cons (ps_set (i := 4) sc__law_guesser.nd rfl (Or.inl rfl) (pe_lst (pa_cons (pe_tup (pa_cons pe_str pa_nil)) (pa_cons (pe_tup (pa_cons pe_str (pa_cons (pe_op op_add pe_int (pe_call G__law_taken (hr.mono (by first | decide | omega)) (by rfl) D__law_taken.m D__law_taken.F.kp D__law_taken.b .nil pass0 (pa_cons (pv 0) (pa_cons pe_int pa_nil)))) pa_nil))) (pa_cons (pe_tup (pa_cons pe_str (pa_cons (pe_op op_add pe_int (pe_call G__law_taken (hr.mono (by first | decide | omega)) (by rfl) D__law_taken.m D__law_taken.F.kp D__law_taken.b .nil pass0 (pa_cons (pv 0) (pa_cons pe_int pa_nil)))) pa_nil))) pa_nil)))))
  (pss_cons (ps_set (i := 4) sc__law_guesser.nd rfl (Or.inl rfl) (pe_op op_cat (pv 4) (pe_lst (pa_cons (pe_tup (pa_cons pe_str (pa_cons (pe_op op_add pe_int (pe_call G__law_taken (hr.mono (by first | decide | omega)) (by rfl) D__law_taken.m D__law_taken.F.kp D__law_taken.b .nil pass0 (pa_cons (pv 0) (pa_cons pe_int pa_nil)))) pa_nil))) (pa_cons (pe_tup (pa_cons pe_str (pa_cons pe_int pa_nil))) (pa_cons (pe_tup (pa_cons pe_str (pa_cons pe_int pa_nil))) pa_nil))))))
  (pss_one (ps_ret (pe_ix ix_list (pv 4) (pv 2) (fun _ _ => rfl)))))))), ?_⟩
    -- way = taken(row, [6, 8][int(within > 0)])
    and_intros
    intro l nl
    and_intros
    refine Or.inr ⟨_, rfl, ?_⟩
    have hl : SqL K (upd H l (.lst [.int 6, .int 8])) l [.int 6, .int 8] := sql upd_same
    have hix : atI [V.int 6, V.int 8] (if decide ((0 : Int) < (m : Int)) = true then 1 else 0) = some (.int (if 0 < m then 8 else 6)) := by
      by_cases z : 0 < m
      · rw [decide_eq_true (show (0 : Int) < (m : Int) by omega), if_pos rfl, if_pos z]; rfl
      · rw [decide_eq_false (show ¬ (0 : Int) < (m : Int) by omega), if_neg Bool.false_ne_true, if_neg z]; rfl
    refine ⟨_, _, _, _, rfl, rfl, hl, hix, ?_⟩
    refine ⟨r, _, rfl, hR.same (by ac_rfl), by split <;> omega, fun way H1 w0 w1 s1 hR1 => ?_⟩
    and_intros
    refine ite2 (fun c => ?_) (fun c => ?_)
    · have c' : (5 : Int) < way := of_decide_eq_true c
      obtain ⟨k, rfl⟩ : ∃ k, m = k + 1 := by
        refine ⟨m - 1, ?_⟩
        split at w1 <;> omega
      have ek : ([V.ref r, V.int (((k + 1 : Nat) : Int) - 1)] : List V) = [V.ref r, V.int (k : Int)] := congrArg (fun z : Int => [V.ref r, V.int z]) (by omega)
      and_intros
      refine ⟨r, k, ek, by omega, hR1, fun g1 v1 H2 s2 hR2 h1 g1' => ?_⟩
      and_intros
      refine ⟨r, k, ek, by omega, hR2, fun g2 v2 H3 s3 hR3 h2 g2' => ?_⟩
      and_intros
      intro p np
      refine q (.both g1 g2) _ _ (by ac_rfl) (hR3.same (by ac_rfl)) ⟨p, v1, v2, rfl, sqt upd_same, (h1.sameX s3 hR2.at_).same (by ac_rfl), h2.same (by ac_rfl)⟩ ?_
      show (good k g1 && good k g2) = true
      rw [g1', g2']
      rfl
    · have c' : ¬ (5 : Int) < way := of_decide_eq_false (Bool.eq_false_iff.mpr c)
      -- sorts = [("none",), ("next", 1 + ..), ("stride", 1 + ..)]
      and_intros
      intro p1 np1
      and_intros
      refine ⟨r, _, rfl, hR1.same (by ac_rfl), by decide, fun x2 H2 a2 b2 s2 hR2 => ?_⟩
      and_intros
      intro p2 np2
      and_intros
      refine ⟨r, _, rfl, hR2.same (by ac_rfl), by decide, fun x3 H3 a3 b3 s3 hR3 => ?_⟩
      and_intros
      intro p3 np3
      and_intros
      intro l1 nl1
      and_intros
      refine ⟨r, _, rfl, hR3.same (by ac_rfl), by decide, fun x4 H4 a4 b4 s4 hR4 => ?_⟩
      and_intros
      intro p4 np4
      and_intros
      intro p5 np5
      and_intros
      intro p6 np6
      and_intros
      intro l2 nl2
      have l1r : l1 ≠ r := (hR3.same (same_upd np3)).nr nl1
      have p1r : p1 ≠ r := hR1.nr np1
      have p2r : p2 ≠ r := hR2.nr np2
      have p3r : p3 ≠ r := hR3.nr np3
      refine ⟨_, _, _, _, rfl, rfl, (by infer_instance), (by infer_instance), (by exact (show 3 + 3 ≤ sizeLine by decide)), ?_⟩
      intro l3 nl3
      and_intros
      have w6 : way = 0 ∨ way = 1 ∨ way = 2 ∨ way = 3 ∨ way = 4 ∨ way = 5 := by omega
      rcases w6 with rfl | rfl | rfl | rfl | rfl | rfl
      · refine ⟨_, _, _, _, rfl, rfl, (by infer_instance), rfl, ?_⟩
        exact q (.leaf "none" []) _ _ (by ac_rfl) (hR4.same (by ac_rfl)) ⟨p1, rfl, (by infer_instance)⟩ (good_none m)
      · refine ⟨_, _, _, _, rfl, rfl, (by infer_instance), rfl, ?_⟩
        exact q (.leaf "next" [1 + x2]) _ _ (by ac_rfl) (hR4.same (by ac_rfl)) ⟨p2, rfl, (by infer_instance)⟩ (good_next (by omega) (by omega))
      · refine ⟨_, _, _, _, rfl, rfl, (by infer_instance), rfl, ?_⟩
        exact q (.leaf "stride" [1 + x3]) _ _ (by ac_rfl) (hR4.same (by ac_rfl)) ⟨p3, rfl, (by infer_instance)⟩ (good_stride (by omega) (by omega))
      · refine ⟨_, _, _, _, rfl, rfl, (by infer_instance), rfl, ?_⟩
        exact q (.leaf "pairs" [1 + x4]) _ _ (by ac_rfl) (hR4.same (by ac_rfl)) ⟨p4, rfl, (by infer_instance)⟩ (good_pairs (by omega) (by omega))
      · refine ⟨_, _, _, _, rfl, rfl, (by infer_instance), rfl, ?_⟩
        exact q (.leaf "stride" [1]) _ _ (by ac_rfl) (hR4.same (by ac_rfl)) ⟨p5, rfl, (by infer_instance)⟩ (good_stride (by omega) (by omega))
      · refine ⟨_, _, _, _, rfl, rfl, (by infer_instance), rfl, ?_⟩
        exact q (.leaf "next" [1]) _ _ (by ac_rfl) (hR4.same (by ac_rfl)) ⟨p6, rfl, (by infer_instance)⟩ (good_next (by omega) (by omega))
end
end St

namespace St
open PySem PySem.Spec PyProof.Rows L2 TL
abbrev s_law : Stmt := topS 21
abbrev N_law : List Str := ["_law_script", "_law_row", "_law_some", "_law_guesser_here", "_law_text_here", "_law_k"]
abbrev p_law : List Str := ["_law_script"]
theorem sc_law : FnScope N_law p_law (defScope s_law) := ⟨rfl, rfl, rfl, by decide +kernel, rfl, by decide +kernel, by decide +kernel⟩
def spLaw (K : PySem.W.Frag) : Sp := fun vs H Q _ => ∃ (a : Addr) (ns : List Int), vs = [.ref a] ∧ Sc K H a (ns.map V.int) ∧ ∀ H', Q (.bl true) H'
/-- all are good guessers -/
def GAll (K : PySem.W.Frag) (H : Hp) (k : Nat) (vs : List V) : Prop := ∀ v ∈ vs, ∃ g, IsG K H g v ∧ good k g = true
theorem GAll.imm {K : PySem.W.Frag} {H H' : Hp} {k : Nat} {vs : List V} (h : GAll K H k vs) (e : Imm H H') : GAll K H' k vs := fun v hv => by
  obtain ⟨g, a, b⟩ := h v hv
  exact ⟨g, a.imm e, b⟩
/-- a guesser as data -/
def dG : G → PyData
  | .nil => .tuple []
  | .leaf w ns => .tuple (.str w :: ns.map .int)
  | .b1 a => .tuple [.str "both", dG a]
  | .both a b => .tuple [.str "both", dG a, dG b]
  | .b3 a b c => .tuple [.str "both", dG a, dG b, dG c]
theorem dp_ints {K : PySem.W.Frag} {H : Hp} : ∀ ns : List Int, DpAll K H (ns.map V.int) (ns.map PyData.int)
  | [] => .nil
  | n :: r => .cons (.int n) (dp_ints r)
theorem dp_G {K : PySem.W.Frag} {H : Hp} : ∀ {g : G} {v : V}, IsG K H g v → Dp K H v (dG g)
  | .nil, _, ⟨p, e, h⟩ => by subst e; exact .tup h .nil
  | .leaf _ ns, _, ⟨p, e, h⟩ => by subst e; exact .tup h (.cons (.str _) (dp_ints ns))
  | .b1 _, _, ⟨p, x, e, h, ha⟩ => by subst e; exact .tup h (.cons (.str _) (.cons (dp_G ha) .nil))
  | .both _ _, _, ⟨p, x, y, e, h, ha, hb⟩ => by subst e; exact .tup h (.cons (.str _) (.cons (dp_G ha) (.cons (dp_G hb) .nil)))
  | .b3 _ _ _, _, ⟨p, x, y, z, e, h, ha, hb, hc⟩ => by subst e; exact .tup h (.cons (.str _) (.cons (dp_G ha) (.cons (dp_G hb) (.cons (dp_G hc) .nil))))
theorem dep_le : ∀ {n : Nat} {d : PyData}, dep n d → dep (n + 1) d
  | 0, _, h => h.elim
  | n + 1, .list ds, h => ⟨h.1, fun d hd => dep_le (h.2 d hd)⟩
  | n + 1, .tuple ds, h => ⟨h.1, fun d hd => dep_le (h.2 d hd)⟩
  | n + 1, .none, _ => True.intro
  | n + 1, .bool _, _ => True.intro
  | n + 1, .int _, _ => True.intro
  | n + 1, .str _, _ => True.intro
  | n + 1, .dict _, _ => True.intro
theorem dep_G : ∀ {k : Nat} {g : G}, good k g = true → k ≤ 3 → dep (k + 2) (dG g)
  | _, .nil, h, _ => by simp [good] at h
  | _, .b1 _, h, _ => by simp [good] at h
  | _, .b3 _ _ _, h, _ => by simp [good] at h
  | 0, .both _ _, h, _ => by simp [good] at h
  | k + 1, .both a b, h, hk => by
    have h' : (good k a && good k b) = true := h
    rw [Bool.and_eq_true] at h'
    have ha := dep_G h'.1 (by omega)
    have hb := dep_G h'.2 (by omega)
    refine ⟨by show 3 ≤ 100000; decide, fun d hd => ?_⟩
    rcases List.mem_cons.mp hd with rfl | hd
    · exact True.intro
    · rcases List.mem_cons.mp hd with rfl | hd
      · exact ha
      · rw [List.mem_singleton.mp hd]
        exact hb
  | k, .leaf w ns, h, _ => by
    have h4 : ns.length ≤ 1 := by
      rcases good_leaf h with ⟨_, rfl⟩ | ⟨m, rfl, _⟩ <;> simp
    refine ⟨by show (PyData.str w :: ns.map PyData.int).length ≤ _; rw [List.length_cons, List.length_map]; omega, fun d hd => ?_⟩
    rcases List.mem_cons.mp hd with rfl | hd
    · exact True.intro
    · obtain ⟨n, _, rfl⟩ := List.mem_map.mp hd
      exact True.intro
section
variable {P : Program} {w : World} {K : PySem.W.Frag} {mg : Str → Option Value} {base : Heap} {f dS dM f1 f2 f3 f4 f5 f6 f7 f8 f9 f10 : Addr} {fd fd1 fd2 fd3 fd4 fd5 fd6 fd7 fd8 fd9 fd10 : FuncData}
theorem ok_law (T : Nms mg) (B : Tab K w mg dS dM) (hF : ∃ t, mg "FIGURES" = some (.str "0123456789" t)) (D_is_guesser : Df K mg "is_guesser" s_is_guesser p_is_guesser f1 fd1) (D_need_guesser : Df K mg "need_guesser" s_need_guesser p_need_guesser f2 fd2) (D_words_of : Df K mg "words_of" s_words_of p_words_of f3 fd3)
    (D_written : Df K mg "written" s_written p_written f4 fd4) (D_part_at : Df K mg "part_at" s_part_at p_part_at f5 fd5) (D_read : Df K mg "read" s_read p_read f6 fd6) (D__law_taken : Df K mg "_law_taken" s__law_taken p__law_taken f7 fd7)
    (D__law_alike : Df K mg "_law_alike" s__law_alike p__law_alike f8 fd8) (D__law_guesser : Df K mg "_law_guesser" s__law_guesser p__law_guesser f9 fd9) (D__law_text : Df K mg "_law_text" s__law_text p__law_text f10 fd10) (F : Fun K "law" "law" s_law f fd) : FnOk P w K mg base CX0 9 f fd p_law (spLaw K) := by
  have G_written : FnOk P w K mg base CX0 7 f4 fd4 p_written (spWritten K) := ok_written T B D_is_guesser D_need_guesser D_words_of D_written.F
  have G_read : FnOk P w K mg base CX0 7 f6 fd6 p_read (spRead K) := ok_read T B hF D_is_guesser D_need_guesser D_part_at D_read.F
  have G__law_guesser : FnOk P w K mg base CX0 5 f9 fd9 p__law_guesser (spGuesser K 4) := ok__law_guesser T D__law_taken D__law_guesser 4
  have G__law_text : FnOk P w K mg base CX0 4 f10 fd10 p__law_text (spText K 4) := ok__law_text T D__law_text 4
  have G__law_alike : FnOk P w K mg base CX0 5 f8 fd8 p__law_alike (spAlike K 5) := ok__law_alike T D__law_alike 5
  refine F.ok sc_law (fun vs H Q E h => ?_) (fun cdv A outer s H vs Q E hr h => ?_)
  · obtain ⟨a, ns, rfl, _⟩ := h
    rfl
  obtain ⟨a, ns, rfl, hS, q⟩ := h
  refine ⟨_, (pss_cons (ps_set (i := 1) sc_law.nd rfl (Or.inr rfl) (pe_lst (pa_cons (pv 0) (pa_cons pe_int (pa_cons pe_int pa_nil)))))
  (pss_cons (ps_setLc (i := 2) (own := [("_law_k", 5)]) (g := gName 5) rfl sc_law.nd rfl rfl (sw_true rfl rfl rfl (by decide +kernel)) (pi_range1 rfl T.n_range (pa_cons pe_int pa_nil)) (blkOk_by (own := [("_law_k", 5)]) (N := N_law) (sc := defScope s_law) (by decide +kernel)) (fun _ _ _ _ _ => pg_name (i := 5) sc_law.nd rfl (Or.inl rfl)) (fun _ _ _ _ _ => pts_nil) (fun _ _ _ _ _ => (pe_call G__law_guesser (hr.mono (by first | decide | omega)) (by rfl) D__law_guesser.m D__law_guesser.F.kp D__law_guesser.b .nil pass0 (pa_cons (pv 1) (pa_cons pe_int pa_nil)))))
  (pss_cons (ps_for PassesOwn.never rfl (pi_list (pe_op op_cat (pv 2) (pe_slice sl_list (pv 2) po_none (po_some pe_int)))) (pg_name (i := 3) sc_law.nd rfl (Or.inl rfl))
    (pss_cons (ps_set (i := 4) sc_law.nd rfl (Or.inl rfl) (pe_call G__law_text (hr.mono (by first | decide | omega)) (by rfl) D__law_text.m D__law_text.F.kp D__law_text.b .nil pass0 (pa_cons (pv 3) pa_nil)))
    (pss_one (ps_if (PW.pt (pw_or (pt_not (pt_val (pe_call G__law_alike (hr.mono (by first | decide | omega)) (by rfl) D__law_alike.m D__law_alike.F.kp D__law_alike.b .nil pass0 (pa_cons (pe_call G_written (hr.mono (by first | decide | omega)) (by rfl) D_written.m D_written.F.kp D_written.b .nil pass0 (pa_cons (pv 3) pa_nil)) (pa_cons (pv 4) pa_nil))))) (pw_or1 (pt_not (pt_val (pe_call G__law_alike (hr.mono (by first | decide | omega)) (by rfl) D__law_alike.m D__law_alike.F.kp D__law_alike.b .nil pass0 (pa_cons (pe_call G_read (hr.mono (by first | decide | omega)) (by rfl) D_read.m D_read.F.kp D_read.b .nil pass0 (pa_cons (pv 4) pa_nil)) (pa_cons (pv 3) pa_nil))))))))
      (pss_one (ps_ret pe_bl))
      (pss_nil)))))
  (pss_one (ps_ret pe_bl))))), ?_⟩
  and_intros
  intro r nr
  have hR : Row K (upd H r (.lst [.ref a, .int 0, .int 0])) r := ⟨a, ns, 0, 0, upd_same, hS.imm (Imm.same (same_upd nr)), by omega⟩
  generalize upd H r (.lst [.ref a, .int 0, .int 0]) = H1 at hR ⊢
  and_intros
  intro D nD
  have hDr : D ≠ r := hR.nr nD
  refine lc_range (lo := 0) (n := ((6 : Int)).toNat) (fun i H' => ∃ vs, H' D = some (.lst vs) ∧ vs.length = i ∧ Row K H' r ∧ GAll K H' 3 vs) ⟨[], upd_same, rfl, hR.same (same_upd nD), fun v hv => nomatch hv⟩ (fun i H' hi h => ?_) (fun H' h => ?_)
  · obtain ⟨vs, e1, e2, e3, e4⟩ := h
    refine ⟨rfl, ?_⟩
    and_intros
    refine ⟨r, 3, rfl, by omega, e3, fun g v H2 s2 hR2 hg hgg => ?_⟩
    have eD : H2 D = some (.lst vs) := s2 _ _ hDr e1
    have i2 : Imm H' H2 := Imm.sameX s2 e3.at_
    have i3 : Imm H2 (upd H2 D (.lst (vs ++ [v]))) := Imm.upd ⟨_, eD⟩
    have h6 : i < 6 := hi
    refine ⟨vs, eD, szl (by omega), vs ++ [v], upd_same, by rw [List.length_append, e2]; rfl, hR2.upd ⟨_, eD⟩ hDr, fun u hu => ?_⟩
    rcases List.mem_append.mp hu with hu | hu
    · exact ((e4.imm i2).imm i3) u hu
    · rw [List.mem_singleton.mp hu]
      exact ⟨g, hg.imm i3, hgg⟩
  · obtain ⟨vs, e1, e2, _, e4⟩ := h
    have e2' : vs.length = 6 := e2
    and_intros
    intro L nL
    refine ⟨_, _, _, _, rfl, rfl, same_upd nL _ _ e1, upd_same, ?_, fun M nM => ?_⟩
    · have : (cutV vs none (some 2)).length ≤ vs.length := by
        unfold cutV
        rw [List.length_take, List.length_drop]
        omega
      exact sz (by omega)
    have i5 : Imm H' (upd (upd H' L (.lst (cutV vs none (some 2)))) M (.lst (vs ++ cutV vs none (some 2)))) := Imm.same ((same_upd nL).trans (same_upd nM))
    have hA : GAll K (upd (upd H' L (.lst (cutV vs none (some 2)))) M (.lst (vs ++ cutV vs none (some 2)))) 3 (vs ++ cutV vs none (some 2)) := fun u hu => by
      rcases List.mem_append.mp hu with hu | hu
      · exact (e4.imm i5) u hu
      · exact (e4.imm i5) u (List.mem_of_mem_drop (List.mem_of_mem_take hu))
    have hM : (upd (upd H' L (.lst (cutV vs none (some 2)))) M (.lst (vs ++ cutV vs none (some 2)))) M = some (.lst (vs ++ cutV vs none (some 2))) := upd_same
    generalize upd (upd H' L (.lst (cutV vs none (some 2)))) M (.lst (vs ++ cutV vs none (some 2))) = H5 at hA hM ⊢
    generalize vs ++ cutV vs none (some 2) = us at hA hM ⊢
    refine ⟨M, rfl, ⟨_, sql hM⟩, ?_⟩
    refine for_list (xs := us) (fun i σ H' => (∃ y3 y4 y5, σ = [some (.ref a), some (.ref r), some (.ref D), y3, y4, y5]) ∧ Same H5 H') ⟨⟨none, none, none, rfl⟩, Same.refl _⟩ (fun i σ H' _ h => same_l h.2 (sql hM)) (fun i x σ H' hi h => ?_) (fun σ H' h => ?_)
    · obtain ⟨⟨y3, y4, y5, rfl⟩, s5⟩ := h
      obtain ⟨g, hg, hgg⟩ := (hA.imm (Imm.same s5)) x (List.mem_of_getElem? hi)
      and_intros
      refine ⟨x, g, 3, rfl, hg, hgg, by omega, by omega, fun H6 s6 => ?_⟩
      and_intros
      refine ⟨x, g, rfl, hg.same s6, hgg, fun H7 s7 => ?_⟩
      and_intros
      refine ⟨_, _, .str (textG g), rfl, .str _, .str _, True.intro, fun H8 s8 => ?_⟩
      and_intros
      intro v H9 s9 hv
      and_intros
      refine ⟨_, _, dG g, rfl, dp_G hv, dp_G ((((hg.same s6).same s7).same s8).same s9), dep_G hgg (by omega), fun H10 s10 => ?_⟩
      and_intros
      exact ⟨⟨_, _, _, rfl⟩, by ac_rfl⟩
    · exact q _
end
end St

namespace St
open PySem PySem.Spec PyProof.Rows L2
theorem all_mk {l : PySem.W.OpenLaw} {w : World} {K : PySem.W.Frag} {h : Heap} {mg : Str → Option Value} {fa f0 f1 f2 f3 f4 f5 f6 f7 f8 f9 f10 d0 d1 : Addr} (X : K.In h) (G : h.Ns mainGlobals mg) (hfa : mg "law" = some (.ref fa))
    {od0 an0 od1 an1 od2 an2 od3 an3 od4 an4 od5 an5 od6 an6 od7 an7 od8 an8 od9 an9 od10 an10 : Option Addr} {sl0 sl1 sl2 sl3 sl4 sl5 sl6 sl7 sl8 sl9 sl10 : Array (Option Value)} {oc0 kV0 dc0 pm0 cd0 ct0 oc1 kV1 dc1 pm1 cd1 ct1 oc2 kV2 dc2 pm2 cd2 ct2 oc3 kV3 dc3 pm3 cd3 ct3 oc4 kV4 dc4 pm4 cd4 ct4 oc5 kV5 dc5 pm5 cd5 ct5 oc6 kV6 dc6 pm6 cd6 ct6 oc7 kV7 dc7 pm7 cd7 ct7 oc8 kV8 dc8 pm8 cd8 ct8 oc9 kV9 dc9 pm9 cd9 ct9 oc10 kV10 dc10 pm10 cd10 ct10 : Value} {es0 es1 : Array DictEntry} {en0 en1 : Nat} {ti0 ts0 : Tok}
    (a0 : PySem.W.nsIn K mainGlobals "is_guesser" = some (some (.ref f0))) (l0 : K.lookup f0 = some ⟨oc0, od0, .func (PySem.W.fnOf "is_guesser" "is_guesser" (defArgs s_is_guesser) (defBody s_is_guesser) (defScope s_is_guesser) .none kV0 dc0 pm0 an0 cd0 ct0), sl0⟩) (c0 : PySem.W.codeIn K cd0 "is_guesser" = true) (k0 : PySem.W.keepIn K (.ref f0) = true)
    (a1 : PySem.W.nsIn K mainGlobals "need_guesser" = some (some (.ref f1))) (l1 : K.lookup f1 = some ⟨oc1, od1, .func (PySem.W.fnOf "need_guesser" "need_guesser" (defArgs s_need_guesser) (defBody s_need_guesser) (defScope s_need_guesser) .none kV1 dc1 pm1 an1 cd1 ct1), sl1⟩) (c1 : PySem.W.codeIn K cd1 "need_guesser" = true) (k1 : PySem.W.keepIn K (.ref f1) = true)
    (a2 : PySem.W.nsIn K mainGlobals "words_of" = some (some (.ref f2))) (l2 : K.lookup f2 = some ⟨oc2, od2, .func (PySem.W.fnOf "words_of" "words_of" (defArgs s_words_of) (defBody s_words_of) (defScope s_words_of) .none kV2 dc2 pm2 an2 cd2 ct2), sl2⟩) (c2 : PySem.W.codeIn K cd2 "words_of" = true) (k2 : PySem.W.keepIn K (.ref f2) = true)
    (a3 : PySem.W.nsIn K mainGlobals "written" = some (some (.ref f3))) (l3 : K.lookup f3 = some ⟨oc3, od3, .func (PySem.W.fnOf "written" "written" (defArgs s_written) (defBody s_written) (defScope s_written) .none kV3 dc3 pm3 an3 cd3 ct3), sl3⟩) (c3 : PySem.W.codeIn K cd3 "written" = true) (k3 : PySem.W.keepIn K (.ref f3) = true)
    (a4 : PySem.W.nsIn K mainGlobals "part_at" = some (some (.ref f4))) (l4 : K.lookup f4 = some ⟨oc4, od4, .func (PySem.W.fnOf "part_at" "part_at" (defArgs s_part_at) (defBody s_part_at) (defScope s_part_at) .none kV4 dc4 pm4 an4 cd4 ct4), sl4⟩) (c4 : PySem.W.codeIn K cd4 "part_at" = true) (k4 : PySem.W.keepIn K (.ref f4) = true)
    (a5 : PySem.W.nsIn K mainGlobals "read" = some (some (.ref f5))) (l5 : K.lookup f5 = some ⟨oc5, od5, .func (PySem.W.fnOf "read" "read" (defArgs s_read) (defBody s_read) (defScope s_read) .none kV5 dc5 pm5 an5 cd5 ct5), sl5⟩) (c5 : PySem.W.codeIn K cd5 "read" = true) (k5 : PySem.W.keepIn K (.ref f5) = true)
    (a6 : PySem.W.nsIn K mainGlobals "_law_taken" = some (some (.ref f6))) (l6 : K.lookup f6 = some ⟨oc6, od6, .func (PySem.W.fnOf "_law_taken" "_law_taken" (defArgs s__law_taken) (defBody s__law_taken) (defScope s__law_taken) .none kV6 dc6 pm6 an6 cd6 ct6), sl6⟩) (c6 : PySem.W.codeIn K cd6 "_law_taken" = true) (k6 : PySem.W.keepIn K (.ref f6) = true)
    (a7 : PySem.W.nsIn K mainGlobals "_law_alike" = some (some (.ref f7))) (l7 : K.lookup f7 = some ⟨oc7, od7, .func (PySem.W.fnOf "_law_alike" "_law_alike" (defArgs s__law_alike) (defBody s__law_alike) (defScope s__law_alike) .none kV7 dc7 pm7 an7 cd7 ct7), sl7⟩) (c7 : PySem.W.codeIn K cd7 "_law_alike" = true) (k7 : PySem.W.keepIn K (.ref f7) = true)
    (a8 : PySem.W.nsIn K mainGlobals "_law_guesser" = some (some (.ref f8))) (l8 : K.lookup f8 = some ⟨oc8, od8, .func (PySem.W.fnOf "_law_guesser" "_law_guesser" (defArgs s__law_guesser) (defBody s__law_guesser) (defScope s__law_guesser) .none kV8 dc8 pm8 an8 cd8 ct8), sl8⟩) (c8 : PySem.W.codeIn K cd8 "_law_guesser" = true) (k8 : PySem.W.keepIn K (.ref f8) = true)
    (a9 : PySem.W.nsIn K mainGlobals "_law_text" = some (some (.ref f9))) (l9 : K.lookup f9 = some ⟨oc9, od9, .func (PySem.W.fnOf "_law_text" "_law_text" (defArgs s__law_text) (defBody s__law_text) (defScope s__law_text) .none kV9 dc9 pm9 an9 cd9 ct9), sl9⟩) (c9 : PySem.W.codeIn K cd9 "_law_text" = true) (k9 : PySem.W.keepIn K (.ref f9) = true)
    (a10 : PySem.W.nsIn K mainGlobals "law" = some (some (.ref f10))) (l10 : K.lookup f10 = some ⟨oc10, od10, .func (PySem.W.fnOf "law" "law" (defArgs s_law) (defBody s_law) (defScope s_law) .none kV10 dc10 pm10 an10 cd10 ct10), sl10⟩) (c10 : PySem.W.codeIn K cd10 "law" = true) (k10 : PySem.W.keepIn K (.ref f10) = true)
    (ad0 : PySem.W.nsIn K mainGlobals "SORTS" = some (some (.ref d0))) (ld0 : K.lookup d0 = some ⟨.type "dict", none, .dict es0 en0, #[]⟩) (lo0 : (d0 == sysModules) = false) (li0 : PySem.W.KeysLit w.params es0.toList) (ee0 : ∃ t0 u0 t1 u1 t2 u2 t3 u3 t4 u4, es0.toList.map (fun e => (e.key, e.val)) = [(.str "none" t0, .int 1 u0), (.str "next" t1, .int 2 u1), (.str "stride" t2, .int 2 u2), (.str "pairs" t3, .int 2 u3), (.str "both" t4, .int 3 u4)])
    (ad1 : PySem.W.nsIn K mainGlobals "MOST_OF" = some (some (.ref d1))) (ld1 : K.lookup d1 = some ⟨.type "dict", none, .dict es1 en1, #[]⟩) (lo1 : (d1 == sysModules) = false) (li1 : PySem.W.KeysLit w.params es1.toList) (ee1 : ∃ t0 u0 t1 u1 t2 u2, es1.toList.map (fun e => (e.key, e.val)) = [(.str "next" t0, .int 3 u0), (.str "stride" t1, .int 3 u1), (.str "pairs" t2, .int 2 u2)])
    (ai0 : PySem.W.nsIn K mainGlobals "MOST_WITHIN" = some (some (.int 3 ti0)))
    (as0 : PySem.W.nsIn K mainGlobals "FIGURES" = some (some (.str "0123456789" ts0)))
    (z0 : PySem.W.nsIn K mainGlobals "len" = some none)
    (z1 : PySem.W.nsIn K mainGlobals "range" = some none)
    (z2 : PySem.W.nsIn K mainGlobals "int" = some none)
    (z3 : PySem.W.nsIn K mainGlobals "str" = some none)
    (z4 : PySem.W.nsIn K mainGlobals "bool" = some none)
    (z5 : PySem.W.nsIn K mainGlobals "tuple" = some none)
    (z6 : PySem.W.nsIn K mainGlobals "list" = some none)
    (z7 : PySem.W.nsIn K mainGlobals "isinstance" = some none)
    (z8 : PySem.W.nsIn K mainGlobals "max" = some none)
    (z9 : PySem.W.nsIn K mainGlobals "min" = some none)
    (z10 : PySem.W.nsIn K mainGlobals "sum" = some none)
    (z11 : PySem.W.nsIn K mainGlobals "sorted" = some none)
    (z12 : PySem.W.nsIn K mainGlobals "dict" = some none)
    (z13 : PySem.W.nsIn K mainGlobals "set" = some none)
    (z14 : PySem.W.nsIn K mainGlobals "zip" = some none)
    (z15 : PySem.W.nsIn K mainGlobals "enumerate" = some none) :
    ∃ fd : FuncData, (∀ (s : Shared) (v : Value), BindsTo s fd ⟨[v], []⟩ [("_law_script", v)]) ∧ ∀ base : Heap, K.In base → base.Ns mainGlobals mg → FnOk l.prog w K mg base CX0 9 fa fd ["_law_script"] (spLaw K) := by
  have e := hfa.symm.trans (PySem.W.mg_of X G a10)
  cases e
  have D_is_guesser : Df K mg "is_guesser" s_is_guesser p_is_guesser f0 (PySem.W.fnOf "is_guesser" "is_guesser" (defArgs s_is_guesser) (defBody s_is_guesser) (defScope s_is_guesser) .none kV0 dc0 pm0 an0 cd0 ct0) := ⟨fun_mk (st := s_is_guesser) l0 c0 k0, PySem.W.mg_of X G a0, (fun_mk (st := s_is_guesser) l0 c0 k0).binds (ps := p_is_guesser) fun _ _ _ _ _ _ us hl => match us, hl with | [_, _], _ => rfl⟩
  have D_need_guesser : Df K mg "need_guesser" s_need_guesser p_need_guesser f1 (PySem.W.fnOf "need_guesser" "need_guesser" (defArgs s_need_guesser) (defBody s_need_guesser) (defScope s_need_guesser) .none kV1 dc1 pm1 an1 cd1 ct1) := ⟨fun_mk (st := s_need_guesser) l1 c1 k1, PySem.W.mg_of X G a1, (fun_mk (st := s_need_guesser) l1 c1 k1).binds (ps := p_need_guesser) fun _ _ _ _ _ _ us hl => match us, hl with | [_], _ => rfl⟩
  have D_words_of : Df K mg "words_of" s_words_of p_words_of f2 (PySem.W.fnOf "words_of" "words_of" (defArgs s_words_of) (defBody s_words_of) (defScope s_words_of) .none kV2 dc2 pm2 an2 cd2 ct2) := ⟨fun_mk (st := s_words_of) l2 c2 k2, PySem.W.mg_of X G a2, (fun_mk (st := s_words_of) l2 c2 k2).binds (ps := p_words_of) fun _ _ _ _ _ _ us hl => match us, hl with | [_], _ => rfl⟩
  have D_written : Df K mg "written" s_written p_written f3 (PySem.W.fnOf "written" "written" (defArgs s_written) (defBody s_written) (defScope s_written) .none kV3 dc3 pm3 an3 cd3 ct3) := ⟨fun_mk (st := s_written) l3 c3 k3, PySem.W.mg_of X G a3, (fun_mk (st := s_written) l3 c3 k3).binds (ps := p_written) fun _ _ _ _ _ _ us hl => match us, hl with | [_], _ => rfl⟩
  have D_part_at : Df K mg "part_at" s_part_at p_part_at f4 (PySem.W.fnOf "part_at" "part_at" (defArgs s_part_at) (defBody s_part_at) (defScope s_part_at) .none kV4 dc4 pm4 an4 cd4 ct4) := ⟨fun_mk (st := s_part_at) l4 c4 k4, PySem.W.mg_of X G a4, (fun_mk (st := s_part_at) l4 c4 k4).binds (ps := p_part_at) fun _ _ _ _ _ _ us hl => match us, hl with | [_, _], _ => rfl⟩
  have D_read : Df K mg "read" s_read p_read f5 (PySem.W.fnOf "read" "read" (defArgs s_read) (defBody s_read) (defScope s_read) .none kV5 dc5 pm5 an5 cd5 ct5) := ⟨fun_mk (st := s_read) l5 c5 k5, PySem.W.mg_of X G a5, (fun_mk (st := s_read) l5 c5 k5).binds (ps := p_read) fun _ _ _ _ _ _ us hl => match us, hl with | [_], _ => rfl⟩
  have D__law_taken : Df K mg "_law_taken" s__law_taken p__law_taken f6 (PySem.W.fnOf "_law_taken" "_law_taken" (defArgs s__law_taken) (defBody s__law_taken) (defScope s__law_taken) .none kV6 dc6 pm6 an6 cd6 ct6) := ⟨fun_mk (st := s__law_taken) l6 c6 k6, PySem.W.mg_of X G a6, (fun_mk (st := s__law_taken) l6 c6 k6).binds (ps := p__law_taken) fun _ _ _ _ _ _ us hl => match us, hl with | [_, _], _ => rfl⟩
  have D__law_alike : Df K mg "_law_alike" s__law_alike p__law_alike f7 (PySem.W.fnOf "_law_alike" "_law_alike" (defArgs s__law_alike) (defBody s__law_alike) (defScope s__law_alike) .none kV7 dc7 pm7 an7 cd7 ct7) := ⟨fun_mk (st := s__law_alike) l7 c7 k7, PySem.W.mg_of X G a7, (fun_mk (st := s__law_alike) l7 c7 k7).binds (ps := p__law_alike) fun _ _ _ _ _ _ us hl => match us, hl with | [_, _], _ => rfl⟩
  have D__law_guesser : Df K mg "_law_guesser" s__law_guesser p__law_guesser f8 (PySem.W.fnOf "_law_guesser" "_law_guesser" (defArgs s__law_guesser) (defBody s__law_guesser) (defScope s__law_guesser) .none kV8 dc8 pm8 an8 cd8 ct8) := ⟨fun_mk (st := s__law_guesser) l8 c8 k8, PySem.W.mg_of X G a8, (fun_mk (st := s__law_guesser) l8 c8 k8).binds (ps := p__law_guesser) fun _ _ _ _ _ _ us hl => match us, hl with | [_, _], _ => rfl⟩
  have D__law_text : Df K mg "_law_text" s__law_text p__law_text f9 (PySem.W.fnOf "_law_text" "_law_text" (defArgs s__law_text) (defBody s__law_text) (defScope s__law_text) .none kV9 dc9 pm9 an9 cd9 ct9) := ⟨fun_mk (st := s__law_text) l9 c9 k9, PySem.W.mg_of X G a9, (fun_mk (st := s__law_text) l9 c9 k9).binds (ps := p__law_text) fun _ _ _ _ _ _ us hl => match us, hl with | [_], _ => rfl⟩
  have I_SORTS : IDict K w d0 [("none", 1), ("next", 2), ("stride", 2), ("pairs", 2), ("both", 3)] := ⟨⟨es0, en0, ⟨ld0, li0, lo0⟩, by obtain ⟨_, _, _, _, _, _, _, _, _, _, e⟩ := ee0; rw [e]; exact (.cons ⟨⟨_, rfl⟩, ⟨_, rfl⟩⟩ (.cons ⟨⟨_, rfl⟩, ⟨_, rfl⟩⟩ (.cons ⟨⟨_, rfl⟩, ⟨_, rfl⟩⟩ (.cons ⟨⟨_, rfl⟩, ⟨_, rfl⟩⟩ (.cons ⟨⟨_, rfl⟩, ⟨_, rfl⟩⟩ .nil)))))⟩⟩
  have g_SORTS := PySem.W.mg_of X G ad0
  have I_MOST_OF : IDict K w d1 [("next", 3), ("stride", 3), ("pairs", 2)] := ⟨⟨es1, en1, ⟨ld1, li1, lo1⟩, by obtain ⟨_, _, _, _, _, _, e⟩ := ee1; rw [e]; exact (.cons ⟨⟨_, rfl⟩, ⟨_, rfl⟩⟩ (.cons ⟨⟨_, rfl⟩, ⟨_, rfl⟩⟩ (.cons ⟨⟨_, rfl⟩, ⟨_, rfl⟩⟩ .nil)))⟩⟩
  have g_MOST_OF := PySem.W.mg_of X G ad1
  have g_MOST_WITHIN : ∃ t, mg "MOST_WITHIN" = some (.int 3 t) := ⟨_, PySem.W.mg_of X G ai0⟩
  have g_FIGURES : ∃ t, mg "FIGURES" = some (.str "0123456789" t) := ⟨_, PySem.W.mg_of X G as0⟩
  have T : Nms mg := ⟨PySem.W.mg_none_of X G z0, PySem.W.mg_none_of X G z1, PySem.W.mg_none_of X G z2, PySem.W.mg_none_of X G z3, PySem.W.mg_none_of X G z4, PySem.W.mg_none_of X G z5, PySem.W.mg_none_of X G z6, PySem.W.mg_none_of X G z7, PySem.W.mg_none_of X G z8, PySem.W.mg_none_of X G z9, PySem.W.mg_none_of X G z10, PySem.W.mg_none_of X G z11, PySem.W.mg_none_of X G z12, PySem.W.mg_none_of X G z13, PySem.W.mg_none_of X G z14, PySem.W.mg_none_of X G z15⟩
  exact ⟨PySem.W.fnOf "law" "law" (defArgs s_law) (defBody s_law) (defScope s_law) .none kV10 dc10 pm10 an10 cd10 ct10, fun s v => .of_eq rfl, fun base _ _ => ok_law T ⟨g_SORTS, I_SORTS, g_MOST_OF, I_MOST_OF, g_MOST_WITHIN⟩ g_FIGURES D_is_guesser D_need_guesser D_words_of D_written D_part_at D_read D__law_taken D__law_alike D__law_guesser D__law_text (fun_mk (st := s_law) l10 c10 k10)⟩
end St
open PySem PySem.W PyProof.Rows
set_option maxHeartbeats 0 in
theorem PySem.Challenge.cw_stridewell_k12_written_and_read_holds : PySem.Challenge.rw_stridewell_k12_written_and_read.Holds := by
  w_on; o_law; k_head; (case hw => w_witness2)
  k_fill
  refine L2.walk_of (l := PySem.Challenge.rw_stridewell_k12_written_and_read) (n := 63) (k := 9) (x := "_law_script") (CX := fun _ => L2.CX0) (sp := fun w => St.spLaw _) rfl (by decide) rfl ⟨rfl, by decide, by decide⟩ (fun w h Y => PySem.W.kIn_of Y) ?F (fun _ _ a ns hl hO hS => ⟨a, ns, rfl, St.Sc.of hO hS, fun _ => rfl⟩) (fun _ _ _ _ _ h => h)
  case F =>
    intro w mg fa h KX G hmg
    refine' St.all_mk KX G hmg ?a0 ?l0 ?c0 ?k0 ?a1 ?l1 ?c1 ?k1 ?a2 ?l2 ?c2 ?k2 ?a3 ?l3 ?c3 ?k3 ?a4 ?l4 ?c4 ?k4 ?a5 ?l5 ?c5 ?k5 ?a6 ?l6 ?c6 ?k6 ?a7 ?l7 ?c7 ?k7 ?a8 ?l8 ?c8 ?k8 ?a9 ?l9 ?c9 ?k9 ?a10 ?l10 ?c10 ?k10 ?ad0 ?ld0 ?lo0 ?li0 ?ee0 ?ad1 ?ld1 ?lo1 ?li1 ?ee1 ?ai0 ?as0 ?z0 ?z1 ?z2 ?z3 ?z4 ?z5 ?z6 ?z7 ?z8 ?z9 ?z10 ?z11 ?z12 ?z13 ?z14 ?z15
    (case a0 => k_is); (case l0 => k_is); (case c0 => k_is); (case k0 => k_is); (case a1 => k_is); (case l1 => k_is)
    (case c1 => k_is); (case k1 => k_is); (case a2 => k_is); (case l2 => k_is); (case c2 => k_is); (case k2 => k_is)
    (case a3 => k_is); (case l3 => k_is); (case c3 => k_is); (case k3 => k_is); (case a4 => k_is); (case l4 => k_is)
    (case c4 => k_is); (case k4 => k_is); (case a5 => k_is); (case l5 => k_is); (case c5 => k_is); (case k5 => k_is)
    (case a6 => k_is); (case l6 => k_is); (case c6 => k_is); (case k6 => k_is); (case a7 => k_is); (case l7 => k_is)
    (case c7 => k_is); (case k7 => k_is); (case a8 => k_is); (case l8 => k_is); (case c8 => k_is); (case k8 => k_is)
    (case a9 => k_is); (case l9 => k_is); (case c9 => k_is); (case k9 => k_is); (case a10 => k_is); (case l10 => k_is)
    (case c10 => k_is); (case k10 => k_is); (case ad0 => k_is); (case ld0 => k_is); (case lo0 => decide); (case li0 => exact ⟨⟨_, _, rfl, rfl⟩, ⟨_, _, rfl, rfl⟩, ⟨_, _, rfl, rfl⟩, ⟨_, _, rfl, rfl⟩, ⟨_, _, rfl, rfl⟩, True.intro⟩)
    (case ee0 => exact ⟨_, _, _, _, _, _, _, _, _, _, rfl⟩); (case ad1 => k_is); (case ld1 => k_is); (case lo1 => decide); (case li1 => exact ⟨⟨_, _, rfl, rfl⟩, ⟨_, _, rfl, rfl⟩, ⟨_, _, rfl, rfl⟩, True.intro⟩); (case ee1 => exact ⟨_, _, _, _, _, _, rfl⟩)
    (case ai0 => k_is); (case as0 => k_is); (case z0 => k_is); (case z1 => k_is); (case z2 => k_is); (case z3 => k_is)
    (case z4 => k_is); (case z5 => k_is); (case z6 => k_is); (case z7 => k_is); (case z8 => k_is); (case z9 => k_is)
    (case z10 => k_is); (case z11 => k_is); (case z12 => k_is); (case z13 => k_is); (case z14 => k_is); (case z15 => k_is)

